import PyProof.Rows.All
import Wide.All
import OpenK.AllK
import Wide.FinOn
import HandS.ForMost
import HandS.Star
import HandS.Zip
import HandS.TupAny
import HandS.Style
import HandS.Conv
import HandS.Strs
import HandS.SetFor
import HandS.Deep
import KE.SortData
import KE.KDictKeyed
import KE.KDictDisplayH
import KE.GoesEnum
import PyProof.ReprRoads
import PyProof.ReprLen
import PyProof.Rows.StrJoinMade
import HandS.MapObj
import HandS.Small
import HandS.Ends
import PySem.Challenge.RW_fewestpours_k66_whole_rounds_and_pours_p
set_option Elab.async false
set_option linter.all false
set_option maxRecDepth 100000
set_option maxHeartbeats 4000000
set_option autoImplicit false
namespace K66
abbrev Pour := List Int × List (List Int)
abbrev Row := List Pour
/-! ## apart -/
def apart (p q : Pour) : Bool := !(p.1.any fun b => q.1.contains b)
theorem apart_iff {p q : Pour} : apart p q = true ↔ ∀ b ∈ p.1, b ∉ q.1 := by
  unfold apart
  simp
theorem apart_symm {p q : Pour} (h : apart p q = true) : apart q p = true := by
  rw [apart_iff] at h ⊢
  intro b hb hp
  exact h b hp hb
theorem apart_comm (p q : Pour) : apart p q = apart q p := by
  cases h : apart p q with
  | true => exact (apart_symm h).symm
  | false =>
    cases h2 : apart q p with
    | true => rw [apart_symm h2] at h; exact h.symm
    | false => rfl
theorem apart_self {p : Pour} (h : p.1 ≠ []) : apart p p = false := by
  cases e : apart p p with
  | false => rfl
  | true =>
    rw [apart_iff] at e
    cases hp : p.1 with
    | nil => exact absurd hp h
    | cons b r =>
      have hb : b ∈ p.1 := by rw [hp]; exact List.mem_cons_self
      exact absurd hb (e b hb)
/-! ## rounds -/
def mx (l : List Int) : Int := l.foldr max 0
theorem mx_ge {l : List Int} : ∀ y ∈ l, y ≤ mx l := by
  induction l with
  | nil => intro y hy; cases hy
  | cons a r ih =>
    intro y hy
    show y ≤ max a (mx r)
    rcases List.mem_cons.mp hy with rfl | hy
    · exact Int.le_max_left _ _
    · exact Int.le_trans (ih y hy) (Int.le_max_right _ _)
theorem mx_nonneg {l : List Int} : 0 ≤ mx l := by
  induction l with
  | nil => exact Int.le_refl 0
  | cons a r ih => exact Int.le_trans ih (Int.le_max_right _ _)
theorem mx_mem (l : List Int) : mx l ∈ (0 :: l) := by
  induction l with
  | nil => exact List.mem_cons_self
  | cons a r ih =>
    show max a (mx r) ∈ _
    rcases Int.le_total a (mx r) with h | h
    · rw [Int.max_eq_right h]
      rcases List.mem_cons.mp ih with e | e
      · rw [e]; exact List.mem_cons_self
      · exact List.mem_cons_of_mem _ (List.mem_cons_of_mem _ e)
    · rw [Int.max_eq_left h]
      exact List.mem_cons_of_mem _ List.mem_cons_self
theorem mx_unique {l : List Int} {m : Int} (h1 : m ∈ (0 :: l)) (h2 : ∀ y ∈ (0 :: l), y ≤ m) : m = mx l := by
  have a : mx l ≤ m := h2 _ (mx_mem l)
  have b : m ≤ mx l := by
    rcases List.mem_cons.mp h1 with e | e
    · rw [e]; exact mx_nonneg
    · exact mx_ge _ e
  omega
theorem mx_le {l : List Int} {m : Int} (h0 : 0 ≤ m) (h : ∀ y ∈ l, y ≤ m) : mx l ≤ m := by
  rcases List.mem_cons.mp (mx_mem l) with e | e
  · rw [e]; exact h0
  · exact h _ e
theorem mx_same {l k : List Int} (h : ∀ y, y ∈ l ↔ y ∈ k) : mx l = mx k := by
  have a : mx l ≤ mx k := mx_le mx_nonneg fun y hy => mx_ge _ ((h y).mp hy)
  have b : mx k ≤ mx l := mx_le mx_nonneg fun y hy => mx_ge _ ((h y).mpr hy)
  omega
theorem mx_bound {l : List Int} {n : Nat} (h : ∀ y ∈ l, y ≤ n) : mx l ≤ n := mx_le (Int.natCast_nonneg n) h
/-- the rounds of those ahead that are not apart, each one more -/
def aheadOf (A : List (Pour × Int)) (p : Pour) : List Int := (A.filter fun x => !apart x.1 p).map fun x => x.2 + 1
def nextR (A : List (Pour × Int)) (p : Pour) : Int := mx (aheadOf A p)
def roundsA (A : List (Pour × Int)) : Row → List Int
  | [] => []
  | p :: r => nextR A p :: roundsA (A ++ [(p, nextR A p)]) r
def rounds (row : Row) : List Int := roundsA [] row
theorem roundsA_length : ∀ (A : List (Pour × Int)) (row : Row), (roundsA A row).length = row.length
  | _, [] => rfl
  | A, p :: r => by
    show (roundsA _ r).length + 1 = r.length + 1
    rw [roundsA_length]
theorem rounds_length (row : Row) : (rounds row).length = row.length := roundsA_length _ _
theorem roundsA_append : ∀ (r1 : Row) (A : List (Pour × Int)) (r2 : Row), roundsA A (r1 ++ r2) = roundsA A r1 ++ roundsA (A ++ r1.zip (roundsA A r1)) r2
  | [], A, r2 => by
    show roundsA A r2 = [] ++ roundsA (A ++ []) r2
    rw [List.append_nil, List.nil_append]
  | p :: r1, A, r2 => by
    show nextR A p :: roundsA (A ++ [(p, nextR A p)]) (r1 ++ r2) = nextR A p :: (roundsA (A ++ [(p, nextR A p)]) r1 ++ roundsA (A ++ ((p, nextR A p) :: r1.zip (roundsA (A ++ [(p, nextR A p)]) r1))) r2)
    rw [roundsA_append r1, List.append_assoc]
    rfl
theorem rounds_append (r1 r2 : Row) : rounds (r1 ++ r2) = rounds r1 ++ roundsA (r1.zip (rounds r1)) r2 := by
  unfold rounds
  rw [roundsA_append, List.nil_append]
theorem rounds_snoc (r : Row) (p : Pour) : rounds (r ++ [p]) = rounds r ++ [nextR (r.zip (rounds r)) p] := by
  rw [rounds_append]
  rfl
theorem rounds_take (row : Row) (i : Nat) (p : Pour) (h : row[i]? = some p) : rounds (row.take (i + 1)) = rounds (row.take i) ++ [nextR ((row.take i).zip (rounds (row.take i))) p] := by
  rw [List.take_add_one, h]
  exact rounds_snoc _ _
theorem nextR_nonneg (A : List (Pour × Int)) (p : Pour) : 0 ≤ nextR A p := mx_nonneg
theorem nextR_bound {A : List (Pour × Int)} {p : Pour} (h : ∀ x ∈ A, x.2 < A.length) : nextR A p ≤ A.length := by
  refine mx_bound fun y hy => ?_
  obtain ⟨x, hx, rfl⟩ := List.mem_map.mp hy
  have := h x (List.mem_filter.mp hx).1
  omega
theorem zipA_lt : ∀ (row : Row) (A : List (Pour × Int)), (∀ x ∈ A, 0 ≤ x.2 ∧ x.2 < A.length) → ∀ y ∈ roundsA A row, 0 ≤ y ∧ y < ((A.length + row.length : Nat) : Int)
  | [], _, _, _, hy => by cases hy
  | p :: r, A, h, y, hy => by
    have hb := nextR_bound (A := A) (p := p) fun x hx => (h x hx).2
    rcases List.mem_cons.mp hy with rfl | hy
    · refine ⟨nextR_nonneg _ _, ?_⟩
      rw [List.length_cons]
      omega
    · have := zipA_lt r (A ++ [(p, nextR A p)]) (fun x hx => by
        rw [List.length_append, List.length_singleton]
        rcases List.mem_append.mp hx with hx | hx
        · have := h x hx; omega
        · rw [List.mem_singleton.mp hx]
          refine ⟨nextR_nonneg _ _, ?_⟩
          show nextR A p < _
          omega) y hy
      rw [List.length_append, List.length_singleton] at this
      rw [List.length_cons]
      omega
theorem rounds_lt (row : Row) : ∀ y ∈ rounds row, 0 ≤ y ∧ y < (row.length : Int) := fun y hy => by
  have := zipA_lt row [] (fun x hx => by cases hx) y hy
  simpa using this
/-! ## settled: sorted by (round, pour) -/
structure GoodLe (le : Int × Pour → Int × Pour → Bool) : Prop where
  trans : ∀ a b c, le a b = true → le b c = true → le a c = true
  total : ∀ a b, le a b = true ∨ le b a = true
  anti : ∀ a b, le a b = true → le b a = true → a = b
  first : ∀ a b, le a b = false → b.1 ≤ a.1
section
variable {le : Int × Pour → Int × Pour → Bool}
def settled (le : Int × Pour → Int × Pour → Bool) (row : Row) : Row := (((rounds row).zip row).mergeSort le).map (·.2)
theorem sorted_unique {α : Type} {le : α → α → Bool} (ha : ∀ a b, le a b = true → le b a = true → a = b) : ∀ {l m : List α}, l.Perm m → l.Pairwise (fun a b => le a b = true) → m.Pairwise (fun a b => le a b = true) → l = m := fun hp h1 h2 =>
  hp.eq_of_pairwise (fun a b _ _ => ha a b) h1 h2
theorem sort_pw (g : GoodLe le) (l : List (Int × Pour)) : (l.mergeSort le).Pairwise (fun a b => le a b = true) :=
  List.pairwise_mergeSort (le := le) (fun a b c h1 h2 => g.trans a b c h1 h2) (fun a b => Bool.or_eq_true_iff.mpr (g.total a b)) l
theorem sort_perm_eq (g : GoodLe le) {l m : List (Int × Pour)} (h : l.Perm m) : l.mergeSort le = m.mergeSort le :=
  sorted_unique g.anti ((List.mergeSort_perm l le).trans (h.trans (List.mergeSort_perm m le).symm)) (sort_pw g l) (sort_pw g m)
/-! ## exchanges of neighbours -/
inductive Sw : Row → Row → Prop
  | mk (l : Row) (p q : Pour) (r : Row) (h : apart p q = true) : Sw (l ++ p :: q :: r) (l ++ q :: p :: r)
theorem Sw.symm {a b : Row} (h : Sw a b) : Sw b a := by
  cases h with
  | mk l p q r h => exact .mk l q p r (apart_symm h)
inductive Eqv : Row → Row → Prop
  | refl (a : Row) : Eqv a a
  | tail {a b c : Row} : Eqv a b → Sw b c → Eqv a c
theorem Eqv.trans {a b c : Row} (h1 : Eqv a b) (h2 : Eqv b c) : Eqv a c := by
  induction h2 with
  | refl => exact h1
  | tail _ s ih => exact .tail ih s
theorem Eqv.one {a b : Row} (h : Sw a b) : Eqv a b := .tail (.refl a) h
theorem Eqv.symm {a b : Row} (h : Eqv a b) : Eqv b a := by
  induction h with
  | refl => exact .refl _
  | tail _ s ih => exact (Eqv.one s.symm).trans ih
theorem Sw.cons {a b : Row} (x : Pour) (h : Sw a b) : Sw (x :: a) (x :: b) := by
  cases h with
  | mk l p q r h => exact .mk (x :: l) p q r h
theorem Eqv.cons {a b : Row} (x : Pour) (h : Eqv a b) : Eqv (x :: a) (x :: b) := by
  induction h with
  | refl => exact .refl _
  | tail _ s ih => exact .tail ih (s.cons x)
theorem Sw.perm {a b : Row} (h : Sw a b) : a.Perm b := by
  cases h with
  | mk l p q r h => exact (List.Perm.swap q p r).append_left l
theorem Eqv.perm {a b : Row} (h : Eqv a b) : a.Perm b := by
  induction h with
  | refl => exact .refl _
  | tail _ s ih => exact ih.trans s.perm
/-! ## the settled row does not turn by exchanges -/
theorem aheadOf_perm {A B : List (Pour × Int)} (h : A.Perm B) (p : Pour) : nextR A p = nextR B p := by
  unfold nextR
  refine mx_same fun y => ?_
  exact ((h.filter _).map _).mem_iff
theorem roundsA_perm : ∀ (r : Row) {A B : List (Pour × Int)}, A.Perm B → roundsA A r = roundsA B r
  | [], _, _, _ => rfl
  | p :: r, A, B, h => by
    show nextR A p :: roundsA (A ++ [(p, nextR A p)]) r = nextR B p :: roundsA (B ++ [(p, nextR B p)]) r
    rw [aheadOf_perm h p, roundsA_perm r (h.append_right _)]
theorem nextR_skip {A : List (Pour × Int)} {p q : Pour} {n : Int} (h : apart p q = true) : nextR (A ++ [(p, n)]) q = nextR A q := by
  unfold nextR aheadOf
  rw [List.filter_append]
  have e : ([(p, n)] : List (Pour × Int)).filter (fun x => !apart x.1 q) = [] := by
    simp [h]
  rw [e, List.append_nil]
theorem rounds_sw {a b : Row} (h : Sw a b) : ((rounds a).zip a).Perm ((rounds b).zip b) := by
  cases h with
  | mk l p q r h =>
    rw [rounds_append, rounds_append]
    generalize hA : l.zip (rounds l) = A
    rw [List.zip_append (rounds_length l), List.zip_append (rounds_length l)]
    refine List.Perm.append_left _ ?_
    show ((nextR A p :: nextR (A ++ [(p, nextR A p)]) q :: roundsA (A ++ [(p, nextR A p)] ++ [(q, nextR (A ++ [(p, nextR A p)]) q)]) r).zip (p :: q :: r)).Perm
      ((nextR A q :: nextR (A ++ [(q, nextR A q)]) p :: roundsA (A ++ [(q, nextR A q)] ++ [(p, nextR (A ++ [(q, nextR A q)]) p)]) r).zip (q :: p :: r))
    rw [nextR_skip h, nextR_skip (apart_symm h)]
    have e : roundsA (A ++ [(p, nextR A p)] ++ [(q, nextR A q)]) r = roundsA (A ++ [(q, nextR A q)] ++ [(p, nextR A p)]) r := by
      refine roundsA_perm r ?_
      rw [List.append_assoc, List.append_assoc]
      exact (List.Perm.swap _ _ []).append_left A
    rw [e]
    exact List.Perm.swap _ _ _
theorem settled_sw (g : GoodLe le) {a b : Row} (h : Sw a b) : settled le a = settled le b := by
  unfold settled
  rw [sort_perm_eq g (rounds_sw h)]
theorem settled_eqv (g : GoodLe le) {a b : Row} (h : Eqv a b) : settled le a = settled le b := by
  induction h with
  | refl => rfl
  | tail _ s ih => exact ih.trans (settled_sw g s)
/-! ## the settled row is reached by exchanges -/
def ins (le : Int × Pour → Int × Pour → Bool) (x : Int × Pour) : List (Int × Pour) → List (Int × Pour)
  | [] => [x]
  | y :: r => if le x y = true then x :: y :: r else y :: ins le x r
def isort (le : Int × Pour → Int × Pour → Bool) : List (Int × Pour) → List (Int × Pour)
  | [] => []
  | x :: r => ins le x (isort le r)
theorem ins_perm (x : Int × Pour) : ∀ l, (ins le x l).Perm (x :: l)
  | [] => .refl _
  | y :: r => by
    unfold ins
    split
    · exact .refl _
    · exact ((ins_perm x r).cons y).trans (List.Perm.swap x y r)
theorem isort_perm : ∀ l, (isort le l).Perm l
  | [] => .refl _
  | x :: r => (ins_perm x _).trans ((isort_perm r).cons x)
theorem ins_pw (g : GoodLe le) (x : Int × Pour) : ∀ l, l.Pairwise (fun a b => le a b = true) → (ins le x l).Pairwise (fun a b => le a b = true)
  | [], _ => by
    show List.Pairwise _ [x]
    exact List.pairwise_singleton _ _
  | y :: r, h => by
    unfold ins
    obtain ⟨h1, h2⟩ := List.pairwise_cons.mp h
    split
    · rename_i hxy
      refine List.pairwise_cons.mpr ⟨fun z hz => ?_, h⟩
      rcases List.mem_cons.mp hz with rfl | hz
      · exact hxy
      · exact g.trans _ _ _ hxy (h1 z hz)
    · rename_i hxy
      refine List.pairwise_cons.mpr ⟨fun z hz => ?_, ins_pw g x r h2⟩
      rcases List.mem_cons.mp ((ins_perm x r).mem_iff.mp hz) with rfl | hz
      · exact (g.total _ _).resolve_left hxy
      · exact h1 z hz
theorem isort_pw (g : GoodLe le) : ∀ l, (isort le l).Pairwise (fun a b => le a b = true)
  | [] => .nil
  | x :: r => ins_pw g x _ (isort_pw g r)
theorem isort_eq (g : GoodLe le) (l : List (Int × Pour)) : l.mergeSort le = isort le l :=
  sorted_unique g.anti ((List.mergeSort_perm l le).trans (isort_perm l).symm) (sort_pw g l) (isort_pw g l)
theorem ins_eqv (x : Int × Pour) : ∀ l : List (Int × Pour), (∀ y ∈ l, le x y = false → apart x.2 y.2 = true) → Eqv (x.2 :: l.map (·.2)) ((ins le x l).map (·.2))
  | [], _ => .refl _
  | y :: r, h => by
    unfold ins
    split
    · exact .refl _
    · rename_i hxy
      have ha := h y List.mem_cons_self (by simpa using hxy)
      have ih := ins_eqv x r fun z hz => h z (List.mem_cons_of_mem _ hz)
      have s0 : ∀ t : Row, Sw (x.2 :: y.2 :: t) (y.2 :: x.2 :: t) := fun t => Sw.mk [] x.2 y.2 t ha
      have s1 := s0 (r.map (·.2))
      have t1 : Eqv (y.2 :: x.2 :: r.map (·.2)) (y.2 :: (ins le x r).map (·.2)) := ih.cons y.2
      exact (Eqv.one s1).trans t1
theorem isort_eqv : ∀ l : List (Int × Pour), l.Pairwise (fun x y => le x y = false → apart x.2 y.2 = true) → Eqv (l.map (·.2)) ((isort le l).map (·.2))
  | [], _ => .refl _
  | x :: r, h => by
    obtain ⟨h1, h2⟩ := List.pairwise_cons.mp h
    exact ((isort_eqv r h2).cons x.2).trans (ins_eqv x (isort le r) fun y hy => h1 y ((isort_perm r).mem_iff.mp hy))
theorem rounds_pw : ∀ (r : Row) (A : List (Pour × Int)), ((roundsA A r).zip r).Pairwise (fun x y => y.1 ≤ x.1 → apart x.2 y.2 = true) ∧ ∀ a ∈ A, ∀ y ∈ (roundsA A r).zip r, y.1 ≤ a.2 → apart a.1 y.2 = true
  | [], A => ⟨.nil, fun a _ y hy => by cases hy⟩
  | p :: r, A => by
    obtain ⟨ih1, ih2⟩ := rounds_pw r (A ++ [(p, nextR A p)])
    refine ⟨List.pairwise_cons.mpr ⟨fun y hy hle => ?_, ih1⟩, fun a ha y hy hle => ?_⟩
    · exact ih2 (p, nextR A p) (List.mem_append_right _ (List.mem_singleton.mpr rfl)) y hy hle
    · rcases List.mem_cons.mp hy with rfl | hy
      · cases hap : apart a.1 p with
        | true => rfl
        | false =>
          have : a.2 + 1 ≤ nextR A p := mx_ge _ (List.mem_map.mpr ⟨a, List.mem_filter.mpr ⟨ha, by simp [hap]⟩, rfl⟩)
          have hle' : nextR A p ≤ a.2 := hle
          omega
      · exact ih2 a (List.mem_append_left _ ha) y hy hle
theorem zip_snd {α β : Type} : ∀ (l : List α) (m : List β), l.length = m.length → (l.zip m).map (·.2) = m
  | [], [], _ => rfl
  | _ :: l, _ :: m, h => by
    show _ :: (l.zip m).map (·.2) = _
    rw [zip_snd l m (by simpa using h)]
  | [], _ :: _, h => by cases h
  | _ :: _, [], h => by cases h
theorem settled_reach (g : GoodLe le) (row : Row) : Eqv row (settled le row) := by
  unfold settled
  rw [isort_eq g]
  have h := isort_eqv (le := le) ((rounds row).zip row) ((rounds_pw row []).1.imp fun {x y} hh hle => hh (g.first x y hle))
  rw [zip_snd _ _ (rounds_length row)] at h
  exact h
theorem eqv_iff (g : GoodLe le) {a b : Row} : Eqv a b ↔ settled le a = settled le b := by
  refine ⟨settled_eqv g, fun h => ?_⟩
  have h1 := settled_reach g a
  have h2 := settled_reach g b
  rw [h] at h1
  exact h1.trans h2.symm
theorem settled_perm (g : GoodLe le) (row : Row) : row.Perm (settled le row) := (settled_reach g row).perm
end
/-! ## pours over blocks -/
/-- the part that a pour lays into a block, if it does -/
def look (k : Int) (p : Pour) : Option (List Int) := (p.1.zip p.2).lookup k
def pourB (bl : List (List Int)) (p : Pour) : List (List Int) := (p.1.zip p.2).foldl (fun b x => b.set x.1.toNat x.2) bl
def behindB (bl : List (List Int)) (row : Row) : List (List Int) := row.foldl pourB bl
/-- a well formed pour of a standing of nb blocks -/
structure Good (nb : Nat) (p : Pour) : Prop where
  asc : p.1.Pairwise (· < ·)
  rng : ∀ k ∈ p.1, 0 ≤ k ∧ k < (nb : Int)
  len : p.2.length = p.1.length
  two : 2 ≤ p.1.length
  parts : ∀ part ∈ p.2, part.length ≤ 3 ∧ ∀ r ∈ part, 0 ≤ r ∧ r < 64
def setAll (bl : List (List Int)) (l : List (Int × List Int)) : List (List Int) := l.foldl (fun b x => b.set x.1.toNat x.2) bl
theorem setAll_length : ∀ (l : List (Int × List Int)) (bl : List (List Int)), (setAll bl l).length = bl.length
  | [], _ => rfl
  | x :: l, bl => by
    show (setAll (bl.set x.1.toNat x.2) l).length = _
    rw [setAll_length l, List.length_set]
theorem pourB_length (bl : List (List Int)) (p : Pour) : (pourB bl p).length = bl.length := setAll_length _ _
theorem setAll_get : ∀ (l : List (Int × List Int)) (bl : List (List Int)) (k : Nat), (l.map (·.1)).Nodup → (∀ x ∈ l, 0 ≤ x.1) → k < bl.length →
    (setAll bl l)[k]? = match l.lookup (k : Int) with | some v => some v | none => bl[k]?
  | [], _, _, _, _, _ => rfl
  | x :: l, bl, k, hn, h0, hk => by
    show (setAll (bl.set x.1.toNat x.2) l)[k]? = _
    rw [List.map_cons, List.nodup_cons] at hn
    rw [setAll_get l _ k hn.2 (fun y hy => h0 y (List.mem_cons_of_mem _ hy)) (by rw [List.length_set]; exact hk)]
    have hx0 := h0 x List.mem_cons_self
    by_cases e : (k : Int) = x.1
    · have e1 : x.1.toNat = k := by omega
      have e2 : l.lookup (k : Int) = none := by
        rw [List.lookup_eq_none_iff]
        intro y hy
        have : y.1 ≠ x.1 := fun z => hn.1 (List.mem_map.mpr ⟨y, hy, z⟩)
        rw [e]
        simpa [bne_iff_ne] using this.symm
      rw [e2]
      show (bl.set x.1.toNat x.2)[k]? = match (x :: l).lookup (k : Int) with | some v => some v | none => bl[k]?
      rw [e1, List.getElem?_set_self hk]
      have e3 : (x :: l).lookup (k : Int) = some x.2 := by
        obtain ⟨a, b⟩ := x
        rw [List.lookup_cons]
        simp only at e
        rw [e, beq_self_eq_true]
      rw [e3]
    · have e1 : x.1.toNat ≠ k := by omega
      have e3 : (x :: l).lookup (k : Int) = l.lookup (k : Int) := by
        obtain ⟨a, b⟩ := x
        rw [List.lookup_cons]
        have : ((k : Int) == a) = false := by simpa using e
        rw [this]
      rw [e3, List.getElem?_set_ne e1]
theorem zip_fst {α β : Type} : ∀ (l : List α) (m : List β), l.length = m.length → (l.zip m).map (·.1) = l
  | [], [], _ => rfl
  | _ :: l, _ :: m, h => by
    show _ :: (l.zip m).map (·.1) = _
    rw [zip_fst l m (by simpa using h)]
  | [], _ :: _, h => by cases h
  | _ :: _, [], h => by cases h
theorem sub_len {α : Type} [DecidableEq α] : ∀ {l m : List α}, l.Nodup → (∀ x ∈ l, x ∈ m) → l.length ≤ m.length
  | [], _, _, _ => Nat.zero_le _
  | x :: l, m, hn, h => by
    obtain ⟨h1, h2⟩ := List.nodup_cons.mp hn
    have hx : x ∈ m := h x List.mem_cons_self
    have hl := sub_len (l := l) (m := m.erase x) h2 fun y hy => (List.mem_erase_of_ne (fun e : y = x => h1 (e ▸ hy))).mpr (h y (List.mem_cons_of_mem _ hy))
    rw [List.length_erase_of_mem hx] at hl
    have : 0 < m.length := List.length_pos_of_mem hx
    rw [List.length_cons]
    omega
theorem asc_nodup {l : List Int} (h : l.Pairwise (· < ·)) : l.Nodup := h.imp fun hab e => by rw [e] at hab; exact absurd hab (Int.lt_irrefl _)
section
variable {nb : Nat} {p q : Pour}
theorem Good.zfst (g : Good nb p) : (p.1.zip p.2).map (·.1) = p.1 := zip_fst _ _ g.len.symm
theorem Good.nodup (g : Good nb p) : ((p.1.zip p.2).map (·.1)).Nodup := by rw [g.zfst]; exact asc_nodup g.asc
theorem Good.pos (g : Good nb p) : ∀ x ∈ p.1.zip p.2, 0 ≤ x.1 := fun x hx => (g.rng x.1 (by rw [← g.zfst]; exact List.mem_map.mpr ⟨x, hx, rfl⟩)).1
theorem pourB_get (g : Good nb p) {bl : List (List Int)} {k : Nat} (hk : k < bl.length) : (pourB bl p)[k]? = match look k p with | some v => some v | none => bl[k]? :=
  setAll_get _ _ _ g.nodup g.pos hk
theorem look_none {k : Int} {p : Pour} (h : k ∉ p.1) : look k p = none := by
  unfold look
  rw [List.lookup_eq_none_iff]
  intro y hy
  have : y.1 ∈ p.1 := (List.of_mem_zip hy).1
  have hne : k ≠ y.1 := fun e => h (e ▸ this)
  simpa [bne_iff_ne] using hne
theorem look_some_aux : ∀ (a : List Int) (b : List (List Int)) (k : Int), a.length = b.length → k ∈ a → ∃ v, (a.zip b).lookup k = some v ∧ v ∈ b
  | [], _, _, _, h => by cases h
  | x :: a, [], _, hl, _ => by cases hl
  | x :: a, y :: b, k, hl, h => by
    show ∃ v, ((x, y) :: a.zip b).lookup k = some v ∧ _
    rw [List.lookup_cons]
    by_cases e : k = x
    · rw [e, beq_self_eq_true]
      exact ⟨y, rfl, List.mem_cons_self⟩
    · have e2 : (k == x) = false := by simpa using e
      rw [e2]
      obtain ⟨v, h1, h2⟩ := look_some_aux a b k (by simpa using hl) ((List.mem_cons.mp h).resolve_left e)
      exact ⟨v, h1, List.mem_cons_of_mem _ h2⟩
theorem Good.look_some (g : Good nb p) {k : Int} (h : k ∈ p.1) : ∃ v, look k p = some v ∧ v ∈ p.2 := look_some_aux _ _ _ g.len.symm h
theorem pourB_comm (gp : Good nb p) (gq : Good nb q) (h : apart p q = true) (bl : List (List Int)) : pourB (pourB bl p) q = pourB (pourB bl q) p := by
  refine List.ext_getElem? fun k => ?_
  by_cases hk : k < bl.length
  · have e1 := pourB_get gq (bl := pourB bl p) (k := k) (by rw [pourB_length]; exact hk)
    have e2 := pourB_get gp (bl := pourB bl q) (k := k) (by rw [pourB_length]; exact hk)
    rw [pourB_get gp hk] at e1
    rw [pourB_get gq hk] at e2
    rw [e1, e2]
    rw [apart_iff] at h
    by_cases hp : (k : Int) ∈ p.1
    · rw [look_none (h _ hp)]
    · rw [look_none hp]
  · rw [List.getElem?_eq_none (by rw [pourB_length, pourB_length]; omega), List.getElem?_eq_none (by rw [pourB_length, pourB_length]; omega)]
theorem behind_sw {a b : Row} (h : Sw a b) (g : ∀ p ∈ a, Good nb p) (bl : List (List Int)) : behindB bl a = behindB bl b := by
  cases h with
  | mk l p q r h =>
    unfold behindB
    rw [List.foldl_append, List.foldl_append, List.foldl_cons, List.foldl_cons, List.foldl_cons, List.foldl_cons]
    rw [pourB_comm (g p (by simp)) (g q (by simp)) h]
theorem behind_eqv {a b : Row} (h : Eqv a b) (g : ∀ p ∈ a, Good nb p) (bl : List (List Int)) : behindB bl a = behindB bl b := by
  induction h with
  | refl => rfl
  | tail t s ih => exact ih.trans (behind_sw s (fun p hp => g p (t.perm.mem_iff.mpr hp)) bl)
end
/-! ## ascending unions -/
def insU (x : Int) : List Int → List Int
  | [] => [x]
  | y :: r => if x < y then x :: y :: r else if x = y then y :: r else y :: insU x r
def uni (l : List Int) : List Int := l.foldr insU []
theorem insU_mem {x z : Int} : ∀ {l : List Int}, z ∈ insU x l ↔ z = x ∨ z ∈ l
  | [] => by simp [insU]
  | y :: r => by
    unfold insU
    split
    · simp
    · split
      · rename_i h
        rw [h]
        simp
      · rw [List.mem_cons, insU_mem (l := r), List.mem_cons]
        constructor
        · rintro (h | h | h)
          · exact .inr (.inl h)
          · exact .inl h
          · exact .inr (.inr h)
        · rintro (h | h | h)
          · exact .inr (.inl h)
          · exact .inl h
          · exact .inr (.inr h)
theorem insU_asc {x : Int} : ∀ {l : List Int}, l.Pairwise (· < ·) → (insU x l).Pairwise (· < ·)
  | [], _ => List.pairwise_singleton _ _
  | y :: r, h => by
    obtain ⟨h1, h2⟩ := List.pairwise_cons.mp h
    unfold insU
    split
    · rename_i hxy
      refine List.pairwise_cons.mpr ⟨fun z hz => ?_, h⟩
      rcases List.mem_cons.mp hz with rfl | hz
      · exact hxy
      · exact Int.lt_trans hxy (h1 z hz)
    · split
      · exact h
      · refine List.pairwise_cons.mpr ⟨fun z hz => ?_, insU_asc h2⟩
        rcases insU_mem.mp hz with rfl | hz
        · omega
        · exact h1 z hz
theorem uni_mem {z : Int} : ∀ {l : List Int}, z ∈ uni l ↔ z ∈ l
  | [] => Iff.rfl
  | x :: r => by
    show z ∈ insU x (uni r) ↔ _
    rw [insU_mem, uni_mem (l := r), List.mem_cons]
theorem uni_asc : ∀ (l : List Int), (uni l).Pairwise (· < ·)
  | [] => .nil
  | x :: r => insU_asc (uni_asc r)
/-- two ascending lists with the same members are one -/
theorem asc_unique : ∀ {a b : List Int}, a.Pairwise (· < ·) → b.Pairwise (· < ·) → (∀ z, z ∈ a ↔ z ∈ b) → a = b
  | [], [], _, _, _ => rfl
  | [], y :: b, _, _, h => absurd ((h y).mpr List.mem_cons_self) (by simp)
  | x :: a, [], _, _, h => absurd ((h x).mp List.mem_cons_self) (by simp)
  | x :: a, y :: b, ha, hb, h => by
    obtain ⟨a1, a2⟩ := List.pairwise_cons.mp ha
    obtain ⟨b1, b2⟩ := List.pairwise_cons.mp hb
    have e : x = y := by
      rcases List.mem_cons.mp ((h x).mp List.mem_cons_self) with e | e
      · exact e
      · rcases List.mem_cons.mp ((h y).mpr List.mem_cons_self) with e2 | e2
        · exact e2.symm
        · have := b1 x e
          have := a1 y e2
          omega
    subst e
    rw [asc_unique a2 b2 fun z => ?_]
    constructor
    · intro hz
      rcases List.mem_cons.mp ((h z).mp (List.mem_cons_of_mem _ hz)) with e | e
      · exact absurd (a1 z hz) (by rw [e]; exact Int.lt_irrefl _)
      · exact e
    · intro hz
      rcases List.mem_cons.mp ((h z).mpr (List.mem_cons_of_mem _ hz)) with e | e
      · exact absurd (b1 z hz) (by rw [e]; exact Int.lt_irrefl _)
      · exact e
theorem le_asc {l : List Int} (h : l.Pairwise (· ≤ ·)) (n : l.Nodup) : l.Pairwise (· < ·) := by
  have := h.and n
  exact this.imp fun {a b} ⟨h1, h2⟩ => by omega
theorem asc_bound : ∀ (l : List Int) (lo : Int) (n : Nat), l.Pairwise (· < ·) → (∀ k ∈ l, lo ≤ k ∧ k < lo + n) → l.length ≤ n
  | [], _, _, _, _ => Nat.zero_le _
  | x :: r, lo, n, h, hb => by
    obtain ⟨h1, h2⟩ := List.pairwise_cons.mp h
    have hx := hb x List.mem_cons_self
    obtain ⟨m, rfl⟩ : ∃ m, n = m + 1 := ⟨n - 1, by omega⟩
    have := asc_bound r (lo + 1) m h2 fun k hk => by
      have := h1 k hk
      have := hb k (List.mem_cons_of_mem _ hk)
      omega
    rw [List.length_cons]
    omega
theorem Good.short {nb : Nat} {p : Pour} (g : Good nb p) : p.1.length ≤ nb := asc_bound _ 0 nb g.asc fun k hk => by have := g.rng k hk; omega
/-! ## pours put together -/
def joinM (p q : Pour) : Pour := (uni (p.1 ++ q.1), (uni (p.1 ++ q.1)).map fun b => (look b q).getD ((look b p).getD []))
theorem look_map (f : Int → List Int) : ∀ (l : List Int) (k : Int), k ∈ l → (l.zip (l.map f)).lookup k = some (f k)
  | [], _, h => by cases h
  | x :: r, k, h => by
    show ((x, f x) :: r.zip (r.map f)).lookup k = _
    rw [List.lookup_cons]
    by_cases e : k = x
    · rw [e, beq_self_eq_true]
    · have e2 : (k == x) = false := by simpa using e
      rw [e2]
      exact look_map f r k ((List.mem_cons.mp h).resolve_left e)
section
variable {nb : Nat} {p q : Pour}
theorem join_mem {k : Int} : k ∈ (joinM p q).1 ↔ k ∈ p.1 ∨ k ∈ q.1 := by
  show k ∈ uni (p.1 ++ q.1) ↔ _
  rw [uni_mem, List.mem_append]
theorem join_look (gp : Good nb p) (gq : Good nb q) (k : Int) : look k (joinM p q) = match look k q with | some v => some v | none => look k p := by
  by_cases h : k ∈ (joinM p q).1
  · have e : look k (joinM p q) = some ((look k q).getD ((look k p).getD [])) := look_map _ _ _ h
    rw [e]
    cases hq : look k q with
    | some v => rfl
    | none =>
      have hp : k ∈ p.1 := by
        rcases join_mem.mp h with h | h
        · exact h
        · obtain ⟨v, e2, _⟩ := gq.look_some h
          rw [hq] at e2
          cases e2
      obtain ⟨v, e2, _⟩ := gp.look_some hp
      rw [e2] <;> rfl
  · rw [look_none h]
    rw [join_mem, not_or] at h
    rw [look_none h.1, look_none h.2]
theorem join_good (gp : Good nb p) (gq : Good nb q) : Good nb (joinM p q) where
  asc := uni_asc _
  rng := fun k hk => by
    rcases join_mem.mp hk with h | h
    · exact gp.rng k h
    · exact gq.rng k h
  len := List.length_map _
  two := by
    have h := gp.two
    exact Nat.le_trans h (sub_len (asc_nodup gp.asc) fun k hk => join_mem.mpr (.inl hk))
  parts := fun part hp => by
    obtain ⟨b, hb, rfl⟩ := List.mem_map.mp hp
    show ((look b q).getD ((look b p).getD [])).length ≤ 3 ∧ ∀ r ∈ (look b q).getD ((look b p).getD []), 0 ≤ r ∧ r < 64
    by_cases hq : b ∈ q.1
    · obtain ⟨v, e, hv⟩ := gq.look_some hq
      rw [e]
      exact gq.parts v hv
    · rw [look_none hq]
      by_cases hp : b ∈ p.1
      · obtain ⟨v, e, hv⟩ := gp.look_some hp
        rw [e]
        exact gp.parts v hv
      · rw [look_none hp]
        exact ⟨Nat.zero_le _, fun r hr => by cases hr⟩
theorem join_pour (gp : Good nb p) (gq : Good nb q) (bl : List (List Int)) : pourB bl (joinM p q) = pourB (pourB bl p) q := by
  refine List.ext_getElem? fun k => ?_
  by_cases hk : k < bl.length
  · rw [pourB_get gq (by rw [pourB_length]; exact hk), pourB_get gp hk, pourB_get (join_good gp gq) hk, join_look gp gq]
    cases look (k : Int) q with
    | none => rfl
    | some v => rfl
  · rw [List.getElem?_eq_none (by rw [pourB_length]; omega), List.getElem?_eq_none (by rw [pourB_length, pourB_length]; omega)]
end
/-- the found pours, the last one first, behind one more -/
def pushM (m : Int) : List Pour → Pour → List Pour
  | [], p => [p]
  | f :: fs, p => if ((uni (f.1 ++ p.1)).length : Int) ≤ m then pushM m fs (joinM f p) else p :: f :: fs
def putR (m : Int) (row : Row) : List Pour := row.foldl (pushM m) []
def putM (m : Int) (row : Row) : Row := (putR m row).reverse
section
variable {nb : Nat} {m : Int}
theorem push_good : ∀ (fs : List Pour) (p : Pour), (∀ x ∈ fs, Good nb x) → Good nb p → ∀ x ∈ pushM m fs p, Good nb x
  | [], p, _, gp => fun x hx => by
    rw [List.mem_singleton.mp (show x ∈ [p] from hx)]
    exact gp
  | f :: fs, p, g, gp => by
    unfold pushM
    split
    · exact push_good fs _ (fun x hx => g x (List.mem_cons_of_mem _ hx)) (join_good (g f List.mem_cons_self) gp)
    · intro x hx
      rcases List.mem_cons.mp hx with rfl | hx
      · exact gp
      · exact g x hx
theorem push_behind : ∀ (fs : List Pour) (p : Pour) (bl : List (List Int)), (∀ x ∈ fs, Good nb x) → Good nb p → behindB bl (pushM m fs p).reverse = pourB (behindB bl fs.reverse) p
  | [], p, bl, _, _ => rfl
  | f :: fs, p, bl, g, gp => by
    unfold pushM
    split
    · rw [push_behind fs _ bl (fun x hx => g x (List.mem_cons_of_mem _ hx)) (join_good (g f List.mem_cons_self) gp), join_pour (g f List.mem_cons_self) gp]
      rw [List.reverse_cons]
      unfold behindB
      rw [List.foldl_append]
      rfl
    · rw [List.reverse_cons]
      show List.foldl pourB bl ((f :: fs).reverse ++ [p]) = _
      rw [List.foldl_append]
      rfl
/-- neighbours (the later one first) have together more than m blocks -/
def Wide (m : Int) : List Pour → Prop
  | p :: f :: fs => m < ((uni (f.1 ++ p.1)).length : Int) ∧ Wide m (f :: fs)
  | _ => True
theorem Wide.tail {p : Pour} {fs : List Pour} (h : Wide m (p :: fs)) : Wide m fs := by
  cases fs with
  | nil => trivial
  | cons f fs => exact h.2
theorem push_wide : ∀ (fs : List Pour) (p : Pour), Wide m fs → Wide m (pushM m fs p)
  | [], _, _ => trivial
  | f :: fs, p, h => by
    unfold pushM
    split
    · exact push_wide fs _ h.tail
    · rename_i hm
      exact ⟨by omega, h⟩
theorem push_length : ∀ (fs : List Pour) (p : Pour), (pushM m fs p).length ≤ fs.length + 1
  | [], _ => Nat.le_refl _
  | f :: fs, p => by
    unfold pushM
    split
    · have := push_length fs (joinM f p)
      rw [List.length_cons]
      omega
    · exact Nat.le_refl _
theorem putR_all : ∀ (row : Row) (fs : List Pour) (bl : List (List Int)), (∀ x ∈ fs, Good nb x) → (∀ x ∈ row, Good nb x) → Wide m fs →
    (∀ x ∈ row.foldl (pushM m) fs, Good nb x) ∧ Wide m (row.foldl (pushM m) fs) ∧ behindB bl (row.foldl (pushM m) fs).reverse = behindB (behindB bl fs.reverse) row ∧ (row.foldl (pushM m) fs).length ≤ fs.length + row.length
  | [], fs, bl, g, _, hw => ⟨g, hw, rfl, Nat.le_refl _⟩
  | p :: row, fs, bl, g, gr, hw => by
    have gp := gr p List.mem_cons_self
    obtain ⟨h1, h2, h3, h4⟩ := putR_all row (pushM m fs p) bl (push_good fs p g gp) (fun x hx => gr x (List.mem_cons_of_mem _ hx)) (push_wide fs p hw)
    refine ⟨h1, h2, ?_, ?_⟩
    · rw [List.foldl_cons, h3, push_behind fs p bl g gp]
      rfl
    · have := push_length (m := m) fs p
      rw [List.foldl_cons, List.length_cons]
      omega
theorem put_good {row : Row} (g : ∀ x ∈ row, Good nb x) : ∀ x ∈ putM m row, Good nb x := fun x hx =>
  (putR_all (m := m) row [] [] (fun x hx => by cases hx) g trivial).1 x (List.mem_reverse.mp hx)
theorem put_behind {row : Row} (g : ∀ x ∈ row, Good nb x) (bl : List (List Int)) : behindB bl (putM m row) = behindB bl row :=
  (putR_all (m := m) row [] bl (fun x hx => by cases hx) g trivial).2.2.1
theorem put_length {row : Row} (g : ∀ x ∈ row, Good nb x) : (putM m row).length ≤ row.length := by
  have := (putR_all (m := m) row [] [] (fun x hx => by cases hx) g trivial).2.2.2
  show (putR m row).reverse.length ≤ _
  rw [List.length_reverse]
  rw [List.length_nil, Nat.zero_add] at this
  exact this
theorem wide_get : ∀ (l : List Pour) (i : Nat) (p f : Pour), Wide m l → l[i]? = some p → l[i + 1]? = some f → m < ((uni (f.1 ++ p.1)).length : Int)
  | [], _, _, _, _, h, _ => by simp at h
  | [_], 0, _, _, _, _, h => by simp at h
  | [_], i + 1, _, _, _, h, _ => by simp at h
  | a :: b :: r, 0, p, f, h, h1, h2 => by
    have e1 : a = p := by simpa using h1
    have e2 : b = f := by simpa using h2
    rw [← e1, ← e2]
    exact h.1
  | a :: b :: r, i + 1, p, f, h, h1, h2 => wide_get (b :: r) i p f h.2 (by simpa using h1) (by simpa using h2)
theorem put_wide {row : Row} (g : ∀ x ∈ row, Good nb x) {i : Nat} {p q : Pour} (h1 : (putM m row)[i]? = some p) (h2 : (putM m row)[i + 1]? = some q) : m < ((uni (p.1 ++ q.1)).length : Int) := by
  have hw := (putR_all (m := m) row [] [] (fun x hx => by cases hx) g trivial).2.1
  have hl2 : i + 1 < (putR m row).length := by
    have := (List.getElem?_eq_some_iff.mp h2).1
    rwa [show (putM m row).length = (putR m row).length from List.length_reverse] at this
  have e1 : (putR m row)[(putR m row).length - 1 - i]? = some p := by
    rw [← h1]
    exact (List.getElem?_reverse (by omega)).symm
  have e2 : (putR m row)[(putR m row).length - 1 - (i + 1)]? = some q := by
    rw [← h2]
    exact (List.getElem?_reverse (by omega)).symm
  have e3 : (putR m row).length - 1 - i = (putR m row).length - 1 - (i + 1) + 1 := by omega
  rw [e3] at e1
  exact wide_get _ _ _ _ hw e2 e1
end
/-! ## all exchanges: how many there can be -/
def lists (xs : Row) : Nat → List Row
  | 0 => [[]]
  | n + 1 => (lists xs n).flatMap fun l => xs.map fun x => x :: l
theorem lists_mem (xs : Row) : ∀ (l : Row), (∀ x ∈ l, x ∈ xs) → l ∈ lists xs l.length
  | [], _ => List.mem_singleton.mpr rfl
  | x :: l, h => List.mem_flatMap.mpr ⟨l, lists_mem xs l fun y hy => h y (List.mem_cons_of_mem _ hy), List.mem_map.mpr ⟨x, h x List.mem_cons_self, rfl⟩⟩
theorem lists_length (xs : Row) : ∀ n : Nat, (lists xs n).length = xs.length ^ n
  | 0 => rfl
  | n + 1 => by
    show ((lists xs n).flatMap _).length = _
    rw [List.length_flatMap]
    have e : (lists xs n).map (fun l => (xs.map fun x => x :: l).length) = (lists xs n).map (fun _ => xs.length) := List.map_congr_left fun l _ => List.length_map _
    rw [e, List.map_const', List.sum_replicate_nat, lists_length xs n, Nat.pow_succ]
theorem perms_few {row : Row} {ks : List Row} (hn : ks.Nodup) (h : ∀ k ∈ ks, Eqv row k) (hl : row.length ≤ 5) : ks.length ≤ 3125 := by
  have h1 := sub_len (m := lists row row.length) hn fun k hk => by
    have hp := (h k hk).perm
    have := lists_mem row k fun x hx => hp.mem_iff.mpr hx
    rwa [hp.length_eq.symm] at this
  rw [lists_length] at h1
  have h2 : row.length ^ row.length ≤ 5 ^ 5 := by
    have : row.length = 0 ∨ row.length = 1 ∨ row.length = 2 ∨ row.length = 3 ∨ row.length = 4 ∨ row.length = 5 := by omega
    rcases this with e | e | e | e | e | e <;> rw [e] <;> decide
  omega
end K66
namespace K66
open PySem PySem.Spec PyProof.Rows L2
/-! ## data on the abstract heap -/
def IntsT (H : Hp) (v : V) (ns : List Int) : Prop := ∃ a : Addr, v = .ref a ∧ H a = some (.tup (ns.map V.int))
def PartsT (H : Hp) (v : V) (ps : List (List Int)) : Prop := ∃ (a : Addr) (vs : List V), v = .ref a ∧ H a = some (.tup vs) ∧ Paired (IntsT H) vs ps
def PourT (H : Hp) (v : V) (p : Pour) : Prop := ∃ (a : Addr) (x y : V), v = .ref a ∧ H a = some (.tup [x, y]) ∧ IntsT H x p.1 ∧ PartsT H y p.2
def RowT (H : Hp) (v : V) (r : Row) : Prop := ∃ (a : Addr) (vs : List V), v = .ref a ∧ H a = some (.tup vs) ∧ Paired (PourT H) vs r
def StandT (H : Hp) (v : V) (b : Int) (bl : List (List Int)) : Prop := ∃ (a : Addr) (x : V), v = .ref a ∧ H a = some (.tup [.int b, x]) ∧ PartsT H x bl
/-- the tuples stay -/
def TE2 (H H' : Hp) : Prop := ∀ (a : Addr) (xs : List V), H a = some (.tup xs) → H' a = some (.tup xs)
theorem TE2.refl (H : Hp) : TE2 H H := fun _ _ e => e
theorem TE2.trans {H H1 H2 : Hp} (a : TE2 H H1) (b : TE2 H1 H2) : TE2 H H2 := fun c xs e => b c xs (a c xs e)
theorem TE2.of {H H' : Hp} (h : Same H H') : TE2 H H' := fun a _ e => h a _ e
section
variable {H H' : Hp} (k : TE2 H H')
include k
theorem IntsT.te {v : V} {ns : List Int} (h : IntsT H v ns) : IntsT H' v ns := let ⟨a, e, q⟩ := h; ⟨a, e, k _ _ q⟩
theorem PartsT.te {v : V} {ps : List (List Int)} (h : PartsT H v ps) : PartsT H' v ps := let ⟨a, vs, e, q, r⟩ := h; ⟨a, vs, e, k _ _ q, L2.Paired.mapP r fun _ _ z => z.te k⟩
theorem PourT.te {v : V} {p : Pour} (h : PourT H v p) : PourT H' v p := let ⟨a, x, y, e, q, r1, r2⟩ := h; ⟨a, x, y, e, k _ _ q, r1.te k, r2.te k⟩
theorem RowT.te {v : V} {r : Row} (h : RowT H v r) : RowT H' v r := let ⟨a, vs, e, q, t⟩ := h; ⟨a, vs, e, k _ _ q, L2.Paired.mapP t fun _ _ z => z.te k⟩
theorem StandT.te {v : V} {b : Int} {bl : List (List Int)} (h : StandT H v b bl) : StandT H' v b bl := let ⟨a, x, e, q, t⟩ := h; ⟨a, x, e, k _ _ q, t.te k⟩
theorem pours_te {vs : List V} {r : Row} (h : Paired (PourT H) vs r) : Paired (PourT H') vs r := L2.Paired.mapP h fun _ _ z => z.te k
theorem parts_te {vs : List V} {r : List (List Int)} (h : Paired (IntsT H) vs r) : Paired (IntsT H') vs r := L2.Paired.mapP h fun _ _ z => z.te k
end
/-! ## as data -/
def encInts (ns : List Int) : PyData := .tuple (ns.map .int)
def encPour (p : Pour) : PyData := .tuple [encInts p.1, .tuple (p.2.map encInts)]
def encRow (r : Row) : PyData := .tuple (r.map encPour)
def encStand (b : Int) (bl : List (List Int)) : PyData := .tuple [.int b, .tuple (bl.map encInts)]
theorem dpAll_of {K : PySem.W.Frag} {H : Hp} {β : Type} {R : V → β → Prop} {ef : β → PyData} (h : ∀ v b, R v b → Dp K H v (ef b)) : ∀ {vs : List V} {bs : List β}, Paired R vs bs → DpAll K H vs (bs.map ef)
  | _, _, .nil => .nil
  | _, _, .cons a t => .cons (h _ _ a) (dpAll_of h t)
theorem dpInts {K : PySem.W.Frag} {H : Hp} : ∀ ns : List Int, DpAll K H (ns.map V.int) (ns.map .int)
  | [] => .nil
  | n :: r => .cons (.int n) (dpInts r)
section
variable {K : PySem.W.Frag} {H : Hp}
theorem IntsT.dp {v : V} {ns : List Int} (h : IntsT H v ns) : Dp K H v (encInts ns) := by
  obtain ⟨a, rfl, q⟩ := h
  exact .tup (SqT.of q) (dpInts ns)
theorem PartsT.dp {v : V} {ps : List (List Int)} (h : PartsT H v ps) : Dp K H v (.tuple (ps.map encInts)) := by
  obtain ⟨a, vs, rfl, q, t⟩ := h
  exact .tup (SqT.of q) (dpAll_of (fun _ _ z => z.dp) t)
theorem PourT.dp {v : V} {p : Pour} (h : PourT H v p) : Dp K H v (encPour p) := by
  obtain ⟨a, x, y, rfl, q, r1, r2⟩ := h
  exact .tup (SqT.of q) (.cons r1.dp (.cons r2.dp .nil))
theorem RowT.dp {v : V} {r : Row} (h : RowT H v r) : Dp K H v (encRow r) := by
  obtain ⟨a, vs, rfl, q, t⟩ := h
  exact .tup (SqT.of q) (dpAll_of (fun _ _ z => z.dp) t)
theorem StandT.dp {v : V} {b : Int} {bl : List (List Int)} (h : StandT H v b bl) : Dp K H v (encStand b bl) := by
  obtain ⟨a, x, rfl, q, t⟩ := h
  exact .tup (SqT.of q) (.cons (.int b) (.cons t.dp .nil))
end
/-! ### == of data is = -/
theorem eqv_ints : ∀ xs ys : List Int, PyData.eqvAll (xs.map .int) (ys.map .int) = decide (xs = ys)
  | [], [] => by simp [PyData.eqvAll]
  | [], _ :: _ => by simp [PyData.eqvAll]
  | _ :: _, [] => by simp [PyData.eqvAll]
  | x :: xs, y :: ys => by
    rw [List.map_cons, List.map_cons, PyData.eqvAll, eqv_ints xs ys]
    by_cases h : x = y
    · simp [PyData.eqv, h]
    · simp [PyData.eqv, h]
theorem eqv_all {β : Type} [DecidableEq β] {ef : β → PyData} (h : ∀ a b, PyData.eqv (ef a) (ef b) = decide (a = b)) : ∀ xs ys : List β, PyData.eqvAll (xs.map ef) (ys.map ef) = decide (xs = ys)
  | [], [] => by simp [PyData.eqvAll]
  | [], _ :: _ => by simp [PyData.eqvAll]
  | _ :: _, [] => by simp [PyData.eqvAll]
  | x :: xs, y :: ys => by
    rw [List.map_cons, List.map_cons, PyData.eqvAll, eqv_all h xs ys, h x y]
    by_cases e : x = y
    · simp [e]
    · simp [e]
theorem eqv_encInts (a b : List Int) : PyData.eqv (encInts a) (encInts b) = decide (a = b) := by
  unfold encInts
  rw [PyData.eqv]
  exact eqv_ints a b
theorem eqv_encPour (p q : Pour) : PyData.eqv (encPour p) (encPour q) = decide (p = q) := by
  unfold encPour
  rw [PyData.eqv, PyData.eqvAll, PyData.eqvAll, PyData.eqvAll, eqv_encInts, PyData.eqv, eqv_all eqv_encInts]
  obtain ⟨a, b⟩ := p
  obtain ⟨c, d⟩ := q
  by_cases h1 : a = c
  · by_cases h2 : b = d
    · simp [h1, h2]
    · simp [h1, h2]
  · simp [h1]
theorem eqv_encRow (a b : Row) : PyData.eqv (encRow a) (encRow b) = decide (a = b) := by
  unfold encRow
  rw [PyData.eqv]
  exact eqv_all eqv_encPour a b
theorem eqv_encStand (b : Int) (x y : List (List Int)) : PyData.eqv (encStand b x) (encStand b y) = decide (x = y) := by
  unfold encStand
  rw [PyData.eqv, PyData.eqvAll, PyData.eqvAll, PyData.eqvAll, PyData.eqv, PyData.eqv, eqv_all eqv_encInts]
  simp
/-! ### shapes -/
theorem depth_all {β : Type} {ef : β → PyData} {n : Nat} (h : ∀ a, (ef a).depth ≤ n) : ∀ xs : List β, PyData.depthAll (xs.map ef) ≤ n
  | [] => by simp [PyData.depthAll]
  | x :: xs => by
    rw [List.map_cons, PyData.depthAll]
    exact Nat.max_le.mpr ⟨h x, depth_all h xs⟩
theorem depth_encInts (a : List Int) : (encInts a).depth ≤ 1 := by
  unfold encInts
  rw [PyData.depth]
  have := depth_all (ef := PyData.int) (n := 0) (fun a => by rw [PyData.depth]; exact Nat.le_refl _) a
  omega
theorem depth_parts (a : List (List Int)) : (PyData.tuple (a.map encInts)).depth ≤ 2 := by
  rw [PyData.depth]
  have := depth_all (ef := encInts) (n := 1) depth_encInts a
  omega
theorem depth_encPour (p : Pour) : (encPour p).depth ≤ 3 := by
  unfold encPour
  rw [PyData.depth, PyData.depthAll, PyData.depthAll, PyData.depthAll]
  have h1 := depth_encInts p.1
  have h2 := depth_parts p.2
  omega
theorem depth_encRow (r : Row) : (encRow r).depth ≤ 4 := by
  unfold encRow
  rw [PyData.depth]
  have := depth_all (ef := encPour) (n := 3) depth_encPour r
  omega
theorem depth_encStand (b : Int) (bl : List (List Int)) : (encStand b bl).depth ≤ 3 := by
  have h2 := depth_parts bl
  unfold encStand
  simp only [PyData.depth, PyData.depthAll] at h2 ⊢
  omega
theorem lay_all {β : Type} {ef : β → PyData} (h : ∀ a, (ef a).canLay0 = true) : ∀ xs : List β, PyData.canLayAll0 (xs.map ef) = true
  | [] => by simp [PyData.canLayAll0]
  | x :: xs => by
    rw [List.map_cons, PyData.canLayAll0, h x, lay_all h xs]
    rfl
theorem lay_encInts (a : List Int) : (encInts a).canLay0 = true := by
  unfold encInts
  rw [PyData.canLay0]
  exact lay_all (fun a => by rw [PyData.canLay0]) a
theorem lay_encPour (p : Pour) : (encPour p).canLay0 = true := by
  unfold encPour
  rw [PyData.canLay0, PyData.canLayAll0, PyData.canLayAll0, PyData.canLayAll0, lay_encInts, PyData.canLay0, lay_all lay_encInts]
  rfl
theorem lay_encRow (r : Row) : (encRow r).canLay0 = true := by
  unfold encRow
  rw [PyData.canLay0]
  exact lay_all lay_encPour r
theorem lay_encStand (b : Int) (bl : List (List Int)) : (encStand b bl).canLay0 = true := by
  unfold encStand
  rw [PyData.canLay0, PyData.canLayAll0, PyData.canLayAll0, PyData.canLayAll0, PyData.canLay0, PyData.canLay0, lay_all lay_encInts]
  rfl
theorem shaped_of {d : PyData} {n : Nat} (h1 : d.canLay0 = true) (h2 : d.depth ≤ n) (hn : n ≤ 64) : SeqAt.shaped d = true := by
  unfold SeqAt.shaped
  rw [h1, decide_eq_true (Nat.le_trans h2 hn)]
  rfl
theorem shaped_row (r : Row) : SeqAt.shaped (encRow r) = true := shaped_of (lay_encRow r) (depth_encRow r) (by decide)
theorem shaped_stand (b : Int) (bl : List (List Int)) : SeqAt.shaped (encStand b bl) = true := shaped_of (lay_encStand b bl) (depth_encStand b bl) (by decide)
end K66
namespace K66
open PySem PySem.Spec PyProof.Rows L2
/-! ## repr of data: its room -/
theorem shown_sum {β : Type} {ef : β → PyData} {c : Nat} : ∀ xs : List β, (∀ a ∈ xs, (ef a).shown.length ≤ c) → ((PyData.shownAll (xs.map ef)).map (·.length)).sum ≤ c * xs.length ∧ (PyData.shownAll (xs.map ef)).length = xs.length
  | [], _ => by simp [PyData.shownAll]
  | x :: xs, h => by
    obtain ⟨h1, h2⟩ := shown_sum xs fun a ha => h a (List.mem_cons_of_mem _ ha)
    have h3 := h x List.mem_cons_self
    rw [List.map_cons, PyData.shownAll, List.map_cons, List.sum_cons, List.length_cons, List.length_cons, Nat.mul_succ]
    omega
theorem shown_tuple {β : Type} {ef : β → PyData} {c n : Nat} {xs : List β} (h : ∀ a ∈ xs, (ef a).shown.length ≤ c) (hn : xs.length ≤ n) : (PyData.tuple (xs.map ef)).shown.length ≤ c * n + 2 * n + 3 := by
  obtain ⟨h1, h2⟩ := shown_sum xs h
  have h3 := tupleText_len_le (PyData.shownAll (xs.map ef))
  rw [PyData.shown]
  have h4 : c * xs.length ≤ c * n := Nat.mul_le_mul_left c hn
  omega
theorem shown_int {i : Int} (h0 : 0 ≤ i) (h : i < 64) : (PyData.int i).shown.length ≤ 2 := by
  rw [PyData.shown]
  exact toString_length_le h0 (by decide) (by show i < 100; omega)
theorem shown_ints {ns : List Int} {n : Nat} (h : ∀ r ∈ ns, 0 ≤ r ∧ r < 64) (hn : ns.length ≤ n) : (encInts ns).shown.length ≤ 4 * n + 3 := by
  have := shown_tuple (ef := PyData.int) (c := 2) (n := n) (xs := ns) (fun a ha => shown_int (h a ha).1 (h a ha).2) hn
  unfold encInts
  omega
theorem shown_pour {nb : Nat} {p : Pour} (g : Good nb p) (hb : nb ≤ 8) : (encPour p).shown.length ≤ 200 := by
  have hs := g.short
  have h1 : (encInts p.1).shown.length ≤ 4 * 8 + 3 := shown_ints (fun r hr => by have := g.rng r hr; omega) (by omega)
  have h2 : (PyData.tuple (p.2.map encInts)).shown.length ≤ 15 * 8 + 2 * 8 + 3 := shown_tuple (fun a ha => shown_ints (n := 3) (fun r hr => (g.parts a ha).2 r hr) (g.parts a ha).1) (by rw [g.len]; omega)
  have h3 := tupleText_len_le (PyData.shownAll [encInts p.1, .tuple (p.2.map encInts)])
  unfold encPour
  rw [PyData.shown]
  simp only [PyData.shownAll, List.map_cons, List.map_nil, List.sum_cons, List.sum_nil, List.length_cons, List.length_nil] at h3 ⊢
  omega
theorem shown_row {nb : Nat} {r : Row} (g : ∀ p ∈ r, Good nb p) (hb : nb ≤ 8) (hr : r.length ≤ 8) : (encRow r).shown.length ≤ sizeLine := by
  have := shown_tuple (ef := encPour) (c := 200) (n := 8) (xs := r) (fun p hp => shown_pour (g p hp) hb) hr
  rw [sizeLine_eq]
  unfold encRow
  omega
theorem log2_small {i : Int} (h0 : 0 ≤ i) (h : i < 64) : i.natAbs.log2 < 1920 := by
  by_cases e : i.natAbs = 0
  · rw [e]
    decide
  · have : i.natAbs.log2 < 6 := (Nat.log2_lt e).mpr (by show i.natAbs < 64; omega)
    omega
theorem show_all {β : Type} {ef : β → PyData} : ∀ xs : List β, (∀ a ∈ xs, (ef a).showable = true) → PyData.showableAll (xs.map ef) = true
  | [], _ => by simp [PyData.showableAll]
  | x :: xs, h => by
    rw [List.map_cons, PyData.showableAll, h x List.mem_cons_self, show_all xs fun a ha => h a (List.mem_cons_of_mem _ ha)]
    rfl
theorem show_ints {ns : List Int} (h : ∀ r ∈ ns, 0 ≤ r ∧ r < 64) : (encInts ns).showable = true := by
  unfold encInts
  rw [PyData.showable]
  exact show_all ns fun a ha => by
    rw [PyData.showable]
    exact decide_eq_true (log2_small (h a ha).1 (h a ha).2)
theorem show_pour {nb : Nat} {p : Pour} (g : Good nb p) (hb : nb ≤ 8) : (encPour p).showable = true := by
  unfold encPour
  rw [PyData.showable, PyData.showableAll, PyData.showableAll, PyData.showableAll, show_ints fun r hr => by have := g.rng r hr; omega]
  rw [PyData.showable, show_all p.2 fun a ha => show_ints fun r hr => (g.parts a ha).2 r hr]
  rfl
theorem show_row {nb : Nat} {r : Row} (g : ∀ p ∈ r, Good nb p) (hb : nb ≤ 8) : (encRow r).showable = true := by
  unfold encRow
  rw [PyData.showable]
  exact show_all r fun p hp => show_pour (g p hp) hb
section
variable {X : Cx}
/-- repr(x), x a list or tuple of data -/
def rRepr (K : PySem.W.Frag) : List V → Hp → VK → Prop := fun xs H Q => ∃ (a : Addr) (d : PyData), xs = [.ref a] ∧ Dp K H (.ref a) d ∧ d.canLay0 = true ∧ d.showable = true ∧ d.depth ≤ 60 ∧ d.shown.length ≤ sizeLine ∧ Q (.str d.shown) H
theorem cr_repr (hG : X.A.guards = some []) (hu : X.A.units + 64 < cLine) : CallR X (.builtin "repr") (rRepr X.K) := by
  intro pins s σ H xs us Q I r h
  obtain ⟨a, d, rfl, hd, h0, h1, h2, h3, q⟩ := h
  rw [Vals.ref1 r]
  obtain ⟨as, hr⟩ := Dp.reads I d _ _ hd rfl
  have hn := PyData.hasDict_of_canLay d h0
  exact repr_of_reads' hr h1 (fun e => by rw [hn] at e; cases e) hG (by omega) (fun _ _ e => e) (fun h' u tk hk => ⟨.str d.shown, H, I.kept hk, ⟨_, rfl⟩, q⟩) h3
end
/-! ## many new objects at once -/
/-- N where it says something, H elsewhere -/
def over (H N : Hp) : Hp := fun b => match N b with | some o => some o | none => H b
theorem over_some {H N : Hp} {b : Addr} {o : HO} (h : N b = some o) : over H N b = some o := by unfold over; rw [h]
theorem over_none {H N : Hp} {b : Addr} (h : N b = none) : over H N b = H b := by unfold over; rw [h]
theorem obj_there {P : Program} {w : World} {H : Hp} {h : Heap} {a : Addr} {o : HO} (x : ObjOk P w H h a o) : ∃ ob, h.get? a = some ob := by
  cases o with
  | lst xs => obtain ⟨_, _, _, _, e⟩ := x; exact ⟨_, e⟩
  | tup xs => obtain ⟨_, _, _, ob, e, _⟩ := x; exact ⟨ob, e⟩
  | dK kvs => obtain ⟨_, _, _, _, ob, _, _, e, _⟩ := x; exact ⟨ob, e⟩
  | dT kvs => obtain ⟨_, _, _, _, ob, _, _, e, _⟩ := x; exact ⟨ob, e⟩
  | set S n => obtain ⟨ob, _, _, _, e, _⟩ := x; exact ⟨ob, e⟩
  | ins C dx fs => obtain ⟨_, _, _, e, _⟩ := x; exact ⟨_, e⟩
  | own y => obtain ⟨ob, e⟩ := x; exact ⟨ob, e⟩
  | xd fs => obtain ⟨_, ⟨ob, _, _, e, _⟩, _⟩ := x; exact ⟨ob, e⟩
  | rng lo hi => obtain ⟨_, _, _, e⟩ := x; exact ⟨_, e⟩
  | frz ob u => obtain ⟨e, _⟩ := x; exact ⟨ob, e⟩
  | tbl ps => exact ⟨_, (show h.get? a = some _ from x)⟩
  | met f y => exact ⟨_, (show h.get? a = some _ from x)⟩
  | ext φ => obtain ⟨_, e, _⟩ := x; exact e
section
variable {X : Cx} {pins : List (Addr × Obj)} {σ : L2.St} {H : Hp} {s : Shared} {h' : Heap}
theorem none_of_get (I : Inv X pins σ H s) {b : Addr} (h : s.heap.get? b = none) : H b = none := by
  cases e : H b with
  | none => rfl
  | some o =>
    obtain ⟨ob, q⟩ := obj_there (I.hok b o e)
    rw [h] at q
    cases q
theorem get_ge {h : Heap} {b : Addr} (hb : h.objs.size ≤ b) : h.get? b = none := by
  cases e : h.get? b with
  | none => rfl
  | some o => exact absurd (Nat.lt_of_lt_of_le (Heap.lt_size e) hb) (Nat.lt_irrefl _)
theorem over_same (I : Inv X pins σ H s) {N : Hp} (hN : ∀ b o, N b = some o → s.heap.get? b = none) : Same H (over H N) := fun b o e => by
  cases q : N b with
  | none => rw [over_none q]; exact e
  | some u => rw [none_of_get I (hN b u q)] at e; cases e
theorem inv_many {t' : Nat} (I : Inv X pins σ H s) (N : Hp) (hN : ∀ b o, N b = some o → s.heap.get? b = none) (k : ∀ b u, s.heap.get? b = some u → h'.get? b = some u)
    (new : ∀ b o, N b = some o → ObjOk X.prog X.w (over H N) h' b o) : Inv X pins σ (over H N) { s with heap := h', toks := t' } := by
  have sm := over_same I hN
  refine I.un ⟨fun b u q _ _ _ => k b u q, fun b u q _ _ _ => ⟨u.slots, k b u q⟩, fun b u q n _ => ?_, fun b u q _ => ⟨u, k b u q⟩, fun b xs q => sm _ _ q, fun b u xs q => sm _ _ q, fun b ps q => ⟨#[], by rw [sm _ _ q]; simp⟩⟩ fun b o e => ?_
  · cases e : N b with
    | none => rw [over_none e]; exact n
    | some o => rw [hN b o e] at q; cases q
  · cases q : N b with
    | none =>
      rw [over_none q] at e
      exact (I.hok b o e).stay (fun c u _ q => k c u q) (fun c q => sm _ _ q) fun c xs q => sm _ _ q
    | some u =>
      rw [over_some q] at e
      cases e
      exact new b _ q
end
/-! ## rows as keys of a dict -/
def keyInts (ns : List Int) : NestedKey := .tup (ns.map .num)
def keyPour (p : Pour) : NestedKey := .tup [keyInts p.1, .tup (p.2.map keyInts)]
def keyRow (r : Row) : NestedKey := .tup (r.map keyPour)
theorem map_inj {α β : Type} {f : α → β} (h : ∀ a b, f a = f b → a = b) : ∀ {xs ys : List α}, xs.map f = ys.map f → xs = ys
  | [], [], _ => rfl
  | [], _ :: _, e => by cases e
  | _ :: _, [], e => by cases e
  | x :: xs, y :: ys, e => by
    rw [List.map_cons, List.map_cons] at e
    injection e with e1 e2
    rw [h _ _ e1, map_inj h e2]
theorem keyInts_inj (a b : List Int) (h : keyInts a = keyInts b) : a = b := by
  unfold keyInts at h
  injection h with h
  exact map_inj (fun x y e => by injection e) h
theorem keyPour_inj (p q : Pour) (h : keyPour p = keyPour q) : p = q := by
  unfold keyPour at h
  injection h with h
  injection h with h1 h2
  injection h2 with h2 _
  injection h2 with h2
  obtain ⟨a, b⟩ := p
  obtain ⟨c, d⟩ := q
  have e1 : a = c := keyInts_inj _ _ h1
  have e2 : b = d := map_inj keyInts_inj h2
  rw [e1, e2]
theorem keyRow_inj (a b : Row) (h : keyRow a = keyRow b) : a = b := by
  unfold keyRow at h
  injection h with h
  exact map_inj keyPour_inj h
theorem kdepth_all {β : Type} {kf : β → NestedKey} {n : Nat} (h : ∀ a, (kf a).depth ≤ n) : ∀ xs : List β, NestedKey.depthAll (xs.map kf) ≤ n
  | [] => by simp [NestedKey.depthAll]
  | x :: xs => by
    rw [List.map_cons, NestedKey.depthAll]
    exact Nat.max_le.mpr ⟨h x, kdepth_all h xs⟩
theorem kdepth_ints (a : List Int) : (keyInts a).depth ≤ 1 := by
  unfold keyInts
  rw [NestedKey.depth]
  have := kdepth_all (kf := NestedKey.num) (n := 0) (fun a => by rw [NestedKey.depth]; exact Nat.le_refl _) a
  omega
theorem kdepth_pour (p : Pour) : (keyPour p).depth ≤ 3 := by
  have h1 := kdepth_ints p.1
  have h2 := kdepth_all (kf := keyInts) (n := 1) kdepth_ints p.2
  unfold keyPour
  simp only [NestedKey.depth, NestedKey.depthAll] at h1 h2 ⊢
  omega
theorem kdepth_row (r : Row) : (keyRow r).depth ≤ 8 := by
  unfold keyRow
  rw [NestedKey.depth]
  have := kdepth_all (kf := keyPour) (n := 3) kdepth_pour r
  omega
section
variable {X : Cx} {pins : List (Addr × Obj)} {σ : L2.St} {H : Hp} {s : Shared}
theorem nested_all {β : Type} {h : Heap} {R : V → β → Prop} {kf : β → NestedKey} (hR : ∀ v b u, R v b → RelV v u → NestedIs h (kf b) u) : ∀ {vs : List V} {bs : List β} {us : List Value}, Paired R vs bs → Vals vs us → NestedAll h (bs.map kf) us
  | _, _, _, .nil, .nil => .nil
  | _, _, _, .cons a t, .cons b u => .cons (hR _ _ _ a b) (nested_all hR t u)
theorem nested_nums {h : Heap} : ∀ {ns : List Int} {us : List Value}, Vals (ns.map V.int) us → NestedAll h (ns.map .num) us
  | [], _, .nil => .nil
  | n :: ns, _, .cons b u => by
    obtain ⟨t, rfl⟩ := b
    exact .cons (.int n t) (nested_nums u)
theorem tup_nested (I : Inv X pins σ H s) {a : Addr} {xs : List V} {ks : List NestedKey} (h : H a = some (.tup xs)) (hk : ∀ us, Vals xs us → NestedAll s.heap ks us) : NestedIs s.heap (.tup ks) (.ref a) := by
  obtain ⟨its, rv, ⟨o, ho, hc, n, hd⟩, _⟩ := I.tuple (SqT.of h)
  exact .tup ho hc hd (by simpa using hk _ rv)
theorem IntsT.nested (I : Inv X pins σ H s) {v : V} {ns : List Int} {u : Value} (h : IntsT H v ns) (r : RelV v u) : NestedIs s.heap (keyInts ns) u := by
  obtain ⟨a, rfl, q⟩ := h
  cases r
  exact tup_nested I q fun us rv => nested_nums rv
theorem PartsT.nested (I : Inv X pins σ H s) {v : V} {ps : List (List Int)} {u : Value} (h : PartsT H v ps) (r : RelV v u) : NestedIs s.heap (.tup (ps.map keyInts)) u := by
  obtain ⟨a, vs, rfl, q, t⟩ := h
  cases r
  exact tup_nested I q fun us rv => nested_all (fun v b u z ru => IntsT.nested I z ru) t rv
theorem PourT.nested (I : Inv X pins σ H s) {v : V} {p : Pour} {u : Value} (h : PourT H v p) (r : RelV v u) : NestedIs s.heap (keyPour p) u := by
  obtain ⟨a, x, y, rfl, q, r1, r2⟩ := h
  cases r
  refine tup_nested I q fun us rv => ?_
  cases rv with
  | cons b t =>
    cases t with
    | cons b' t' =>
      cases t'
      exact .cons (r1.nested I b) (.cons (r2.nested I b') .nil)
theorem RowT.nested (I : Inv X pins σ H s) {v : V} {r : Row} {u : Value} (h : RowT H v r) (ru : RelV v u) : NestedIs s.heap (keyRow r) u := by
  obtain ⟨a, vs, rfl, q, t⟩ := h
  cases ru
  exact tup_nested I q fun us rv => nested_all (fun v b u z ru => PourT.nested I z ru) t rv
/-- the entries: each row, where its tuple lies -/
def entK (xs : List (Row × Addr)) : List (NestedKey × Addr × Value) := xs.map fun x => (keyRow x.1, x.2, Value.bool true)
/-- the dict at d whose keys are the rows xs, each with the value True -/
def KnO (P : Program) (w : World) (d : Addr) (xs : List (Row × Addr)) : HO := .ext fun h => (d == sysModules) = false ∧ ∃ o es ep, h.get? d = some o ∧ o.ExactDict ∧ o.data = .dict es ep ∧ es.toList = (entK xs).map (entryOfKey (nestedKind P w))
structure Known (P : Program) (w : World) (H : Hp) (d : Addr) (xs : List (Row × Addr)) : Prop where
  at' : H d = some (KnO P w d xs)
  nodup : (xs.map (·.1)).Nodup
  rows : ∀ x ∈ xs, RowT H (.ref x.2) x.1
theorem Known.te {P : Program} {w : World} {H' : Hp} {d : Addr} {xs : List (Row × Addr)} (K : Known P w H d xs) (k : TE2 H H') (e : H' d = H d) : Known P w H' d xs :=
  ⟨by rw [e]; exact K.at', K.nodup, fun x hx => (K.rows x hx).te k⟩
theorem entK_nodup {xs : List (Row × Addr)} (h : (xs.map (·.1)).Nodup) : ((entK xs).map (·.1)).Nodup := by
  unfold entK
  rw [List.map_map]
  have e : ((fun x : NestedKey × Addr × Value => x.1) ∘ fun x : Row × Addr => (keyRow x.1, x.2, Value.bool true)) = keyRow ∘ fun x : Row × Addr => x.1 := rfl
  rw [e, ← List.map_map]
  exact List.Pairwise.map _ (fun a b hab e => hab (keyRow_inj a b e)) h
theorem Known.dict (I : Inv X pins σ H s) {d : Addr} {xs : List (Row × Addr)} (K : Known X.prog X.w H d xs) : (d == sysModules) = false ∧ s.heap.DictOfH (nestedKind X.prog X.w) d (entK xs) := by
  obtain ⟨⟨hd, o, es, ep, h1, h2, h3, h4⟩, _⟩ := I.hok d _ K.at'
  refine ⟨hd, o, es, ep, h1, h2, h3, h4, fun x hx => ?_, entK_nodup K.nodup⟩
  obtain ⟨y, hy, rfl⟩ := List.mem_map.mp hx
  exact ⟨(K.rows y hy).nested I rfl, kdepth_row _⟩
theorem atKey_entK : ∀ (xs : List (Row × Addr)) (r : Row), (atKey (entK xs) (keyRow r)).isSome = decide (r ∈ xs.map (·.1))
  | [], r => by simp [entK, atKey]
  | x :: xs, r => by
    have ih := atKey_entK xs r
    unfold entK atKey at ih ⊢
    rw [List.map_cons, List.find?_cons]
    by_cases e : x.1 = r
    · simp [e]
    · have e2 : keyRow x.1 ≠ keyRow r := fun z => e (keyRow_inj _ _ z)
      simp only [decide_eq_false e2]
      rw [ih, List.map_cons]
      simp [Ne.symm e]
theorem knO_new {P : Program} {w : World} {H' : Hp} {h' : Heap} {d : Addr} {xs : List (Row × Addr)} (hd : (d == sysModules) = false) (x : h'.DictOfH (nestedKind P w) d (entK xs)) : ObjOk P w H' h' d (KnO P w d xs) := by
  obtain ⟨o, es, ep, h1, h2, h3, h4, _⟩ := x
  exact ⟨⟨hd, o, es, ep, h1, h2, h3, h4⟩, ⟨o, h1⟩, fun a b ⟨_, o', es', ep', g1, g2, g3, g4⟩ k => ⟨hd, o', es', ep', k _ g1, g2, g3, g4⟩⟩
end
section
variable {X : Cx}
/-- r in known, r not in known -/
def rKn (P : Program) (w : World) (neg : Bool) : R2 := fun x y H Q => ∃ (r : Row) (d : Addr) (xs : List (Row × Addr)), RowT H x r ∧ y = .ref d ∧ Known P w H d xs ∧ Q (.bl (if neg then !decide (r ∈ xs.map (·.1)) else decide (r ∈ xs.map (·.1)))) H
theorem op_inKn (hu : X.A.units + 64 < cLine) : OpR X (compareOp .In) (rKn X.prog X.w false) := by
  intro pins s σ H x y v u Q I rx ry h
  obtain ⟨r, d, xs, hr, rfl, K, q⟩ := h
  cases ry
  obtain ⟨hd, hm⟩ := K.dict I
  have hk : NestedIs s.heap (keyRow r) v := hr.nested I rx
  obtain ⟨a, rs, rfl, _⟩ := id hr
  cases rx
  refine wpAny_in_heap (knd := nestedKind X.prog X.w) (by show X.A.units + 1 + 8 < cLine; omega) ⟨hk, kdepth_row _⟩ hd hm ?_
  rw [atKey_entK]
  refine ⟨_, H, I.tok _, ?_, q⟩
  exact rfl
theorem op_notInKn (hu : X.A.units + 64 < cLine) : OpR X (compareOp .NotIn) (rKn X.prog X.w true) := by
  intro pins s σ H x y v u Q I rx ry h
  obtain ⟨r, d, xs, hr, rfl, K, q⟩ := h
  cases ry
  obtain ⟨hd, hm⟩ := K.dict I
  have hk : NestedIs s.heap (keyRow r) v := hr.nested I rx
  obtain ⟨a, rs, rfl, _⟩ := id hr
  cases rx
  refine notIn_keyed (knd := nestedKind X.prog X.w) (by show X.A.units + 1 + 8 < cLine; omega) ⟨hk, kdepth_row _⟩ hd ⟨_, hm, rfl⟩ ?_
  rw [valueAt_pairsH, Option.isSome_map, atKey_entK]
  refine ⟨_, H, I.tok _, ?_, q⟩
  exact rfl
/-- known[r] = True, r not known so far -/
def rSetKn (P : Program) (w : World) : TSet := fun o i v H Q => ∃ (d a : Addr) (r : Row) (xs : List (Row × Addr)), o = .ref d ∧ i = .ref a ∧ v = .bl true ∧ RowT H i r ∧ Known P w H d xs ∧ r ∉ xs.map (·.1) ∧ xs.length ≤ 1000000 ∧ Q (upd H d (KnO P w d (xs ++ [(r, a)])))
theorem set_kn (hu : X.A.units + 64 < cLine) : PSet X (rSetKn X.prog X.w) := by
  intro pins s σ H o i v ov iv u Q I ro ri rv h
  obtain ⟨d, a, r, xs, rfl, rfl, rfl, hr, K, hn, hl, q⟩ := h
  cases ro
  obtain rfl : iv = Value.ref a := ri
  cases rv
  obtain ⟨hd, hm⟩ := K.dict I
  have hk : NestedIs s.heap (keyRow r) (.ref a) := hr.nested I rfl
  have hno : atKey (entK xs) (keyRow r) = none := by
    have := atKey_entK xs r
    rw [decide_eq_false hn] at this
    cases e : atKey (entK xs) (keyRow r) with
    | none => rfl
    | some z => rw [e] at this; cases this
  refine wpAny_setItem_heap (knd := nestedKind X.prog X.w) (hsz := by unfold entK; rw [List.length_map, sizeLine_eq]; omega) (by show X.A.units + 1 + 8 < cLine; omega) ⟨hk, kdepth_row _⟩ hm fun h' hm' hs => ?_
  rw [storedH_new hno] at hm'
  have e : entK xs ++ [(keyRow r, a, Value.bool true)] = entK (xs ++ [(r, a)]) := by
    unfold entK
    rw [List.map_append]
    rfl
  rw [e] at hm'
  have new := knO_new (P := X.prog) (w := X.w) (H' := upd H d (KnO X.prog X.w d (xs ++ [(r, a)]))) hd hm'
  obtain ⟨o, _, _, ho, _⟩ := id hm'
  refine ⟨upd H d (KnO X.prog X.w d (xs ++ [(r, a)])), I.write (e := d) (t' := s.toks + (nestedKind X.prog X.w).draws (keyRow r)) (by rw [K.at']; trivial) (.inl rfl) (fun b u hb e => (hs.2 b hb).trans e) ⟨o, ho⟩ new, q⟩
end
end K66
namespace K66
open PySem PySem.Spec PyProof.Rows L2
/-! ## {row: True} -/
def tKn (P : Program) (w : World) (tk tv : TE) : TE := fun σ H Q => ∀ d : Addr, H d = none → tk σ (upd H d (KnO P w d [])) fun x H1 => tv σ H1 fun y H2 => ∃ (a : Addr) (r : Row), x = .ref a ∧ y = .bl true ∧ RowT H2 x r ∧ H2 d = some (KnO P w d []) ∧ Q (.ref d) (upd H2 d (KnO P w d [(r, a)]))
theorem pe_kn {X : Cx} {pos : Pos} {k v : Expr} {tk tv : TE} (hu : X.A.units + 64 < cLine) (hk : PE X k tk) (hv : PE X v tv) : PE X (.Dict [some k] [v] pos) (tKn X.prog X.w tk tv) := by
  refine ⟨fun pins s σ H Q I q => ?_⟩
  have hn := I.hok.fresh (Nat.le_refl s.heap.objs.size)
  have hm : (s.heap.objs.size == sysModules) = false := beq_eq_false_iff_ne.mpr (Nat.ne_of_gt I.big)
  have I1 := I.laid (a := s.heap.objs.size) (o := KnO X.prog X.w s.heap.objs.size []) (h' := s.heap.push { cls := .type "dict", data := .dict #[] }) (t' := s.toks) (fun _ _ q => Heap.get?_push_of_some _ q) (Nat.le_refl _)
    (knO_new hm (Heap.DictOfH.new s.heap))
  rw [arm_eval_Dict, zip_pairTrees [some k] [v] X.env pos rfl rfl, dictDisplay_pairs (pairTrees [some k] [v] X.env pos) (fun e => by cases e) (by show 1 < 17; omega)]
  refine wpAny_bind (wpAny_standAt (wpAny_bind (wpAny_subDictH (knd := nestedKind X.prog X.w) (by show X.A.units + 8 < cLine; omega) (by show 1 ≤ 15; omega) ?_)))
  refine pairTrees_cons_walk (thn (hk.run pins _ σ _ _ I1 (q _ hn)) fun u s1 ⟨x, H1, J1, rx, q1⟩ => thn (hv.run pins s1 σ H1 _ J1 q1) fun u2 s2 ⟨y, H2, J2, ry, q2⟩ => pairTrees_nil_walk ?_)
  obtain ⟨a, r, rfl, rfl, hr, hd, q3⟩ := q2
  cases rx
  cases ry
  have hkey : (nestedKind X.prog X.w).is s2.heap (keyRow r) a := ⟨hr.nested J2 rfl, kdepth_row _⟩
  have KN : Known X.prog X.w H2 s.heap.objs.size [] := ⟨hd, List.Pairwise.nil, fun x hx => by cases hx⟩
  refine ⟨[(keyRow r, a, Value.bool true)], ⟨rfl, rfl, hkey, trivial⟩, (KN.dict J2).2, fun h' tk hm' hs => wpAny_pure ?_⟩
  have hx2 : h'.DictOfH (nestedKind X.prog X.w) s.heap.objs.size (entK [(r, a)]) := hm'
  exact ⟨.ref s.heap.objs.size, _, J2.write (e := s.heap.objs.size) (by rw [hd]; trivial) (.inl rfl) (fun b u hb e => (hs.2 b hb).trans e) (by obtain ⟨o, _, _, h1, _⟩ := id hx2; exact ⟨o, h1⟩) (knO_new hm hx2), rfl, q3⟩
end K66
namespace K66
open PySem PySem.Spec PyProof.Rows L2
open Sem (wp)
/-! ## zip whose tuples are kept: collected into a list -/
section
variable {prog : Program} {w : World} {A : Around} {E : Value → Shared → Prop} {s : Shared} {z TI TO i1 i2 T : Addr} {fp1 fp2 : List Addr} {n1 n2 i : Nat} {P1 P2 : Nat → Value → Prop} {St1 St2 : Nat → Heap → Prop} {f : Bool} {oT : Obj}
theorem zipHeld_item {Q : Value → Shared → Prop} (S : ZipSep2 z TI TO i1 i2 fp1 fp2) (D1 : Draws prog w A i1 fp1 n1 P1 St1) (D2 : Draws prog w A i2 fp2 n2 P2 St2)
    (hz : IsZipHeld s.heap z TI TO T f) (hT : s.heap.get? T = some oT) (hTI : IsTupOf2 s.heap TI (.ref i1) (.ref i2)) (st1 : St1 i s.heap) (st2 : St2 i s.heap) (lt1 : i < n1) (lt2 : i < n2)
    (hQ : ∀ x1 x2 h' tk, P1 i x1 → P2 i x2 → IsZipHeld h' z TI TO T true → St1 (i + 1) h' → St2 (i + 1) h' → IsTupOf2 h' s.heap.objs.size x1 x2 → h'.objs.size = s.heap.objs.size + 1 →
      (∀ c o, c ≠ z → c ≠ i1 → c ≠ i2 → s.heap.get? c = some o → h'.get? c = some o) → Q (.ref s.heap.objs.size) { s with heap := h', toks := tk }) :
    wpAny (model prog w) A (Builtin.«zip.__next__» ⟨[.ref z], []⟩) (fun fin s' => ∃ v, fin = .done (.ret v) ∧ Q v s') E s := by
  obtain ⟨hp, g, d, tk0, os⟩ := s
  show wpAny _ _ (field (.ref z) 2 >>= _) _ _ _
  refine wpAny_bind (wpAny_field hz rfl (x := .bool false) rfl ?_)
  show wpAny _ _ (field (.ref z) 3 >>= _) _ _ _
  refine wpAny_bind (wpAny_field hz rfl (x := .ref TI) rfl ?_)
  refine wpAny_bind (wpAny_seqItems hTI rfl ?_)
  show wpAny _ _ (Builtin.SmallTypes.ownedTupleIsFree (.ref z) >>= _) _ _ _
  refine wpAny_bind (wpAny_tupleHeld_zip hz hT fun g0 hz0 hs0 => ?_)
  replace hs0 : Heap.SameBut z hp g0 := hs0
  simp only [Bool.false_eq_true, if_false]
  refine wpAny_bind ?_
  rw [← Array.forIn_toList]
  simp only [List.forIn_cons, List.forIn_nil]
  refine wpAny_bind (wpAny_bind (wpAny_holding ?_))
  show wpAny _ _ (Builtin.SmallTypes.nextOf (.ref i1) >>= _) _ _ ⟨g0, g, d, tk0, os⟩
  refine wpAny_bind (D1.item i _ _ _ lt1 (D1.over st1 hs0 S.zf1) fun x1 p1 tk1 hx1 sn1 hp1 => wpAny_pure ?_)
  replace hp1 : Heap.SameBut i1 g0 p1 := hp1
  refine wpAny_pure ?_
  refine wpAny_bind (wpAny_bind (wpAny_holding ?_))
  show wpAny _ _ (Builtin.SmallTypes.nextOf (.ref i2) >>= _) _ _ ⟨p1, g, d, tk1, os⟩
  refine wpAny_bind (D2.item i _ _ _ lt2 (D2.over (D2.over st2 hs0 S.zf2) hp1 S.sep1_2) fun x2 p2 tk2 hx2 sn2 hp2 => wpAny_pure ?_)
  replace hp2 : Heap.SameBut i2 p1 p2 := hp2
  refine wpAny_pure (wpAny_pure ?_)
  show wpAny _ _ (newTuple [x1, x2] >>= _) _ _ ⟨p2, g, d, tk2, os⟩
  refine wpAny_bind (wpAny_newTuple ?_)
  have hsz : p2.objs.size = hp.objs.size := by rw [hp2.1, hp1.1, hs0.1]
  have hzz : IsZipHeld p2 z TI TO T true := hp2.extBut _ _ S.zi2 (hp1.extBut _ _ S.zi1 hz0)
  have hkk : ∀ c o, c ≠ z → c ≠ i1 → c ≠ i2 → hp.get? c = some o → p2.get? c = some o := fun c o cz c1 c2 e => hp2.extBut _ _ c2 (hp1.extBut _ _ c1 (hs0.extBut _ _ cz e))
  have hj1 : St1 (i + 1) p2 := D1.over sn1 hp2 S.sep2_1
  refine wpAny_pure ⟨_, rfl, ?_⟩
  show Q (.ref p2.objs.size) _
  have hpr : IsTupOf2 (p2.push { cls := .type "tuple", data := .seq #[x1, x2] }) p2.objs.size x1 x2 := Heap.get?_push_size _ rfl
  have hz4 : (p2.push { cls := .type "tuple", data := .seq #[x1, x2] }).objs.size = p2.objs.size + 1 := Heap.size_push ..
  rw [hsz] at hpr hz4 ⊢
  exact hQ x1 x2 _ tk2 hx1 hx2 (Heap.get?_push_of_some _ hzz) (D1.frame _ _ _ hj1 fun b _ o e => Heap.get?_push_of_some _ e) (D2.frame _ _ _ sn2 fun b _ o e => Heap.get?_push_of_some _ e) hpr hz4
    fun c o cz c1 c2 e => Heap.get?_push_of_some _ (hkk c o cz c1 c2 e)
theorem zipHeld_end {Q : Fin → Shared → Prop} (S : ZipSep2 z TI TO i1 i2 fp1 fp2) (D1 : Draws prog w A i1 fp1 n1 P1 St1)
    (hz : IsZipHeld s.heap z TI TO T f) (hT : s.heap.get? T = some oT) (hTI : IsTupOf2 s.heap TI (.ref i1) (.ref i2)) (st1 : St1 n1 s.heap)
    (hE : ∀ h' e, (∀ c o, c ≠ z → c ≠ i1 → c ≠ i2 → s.heap.get? c = some o → h'.get? c = some o) → (∃ o, h'.get? e = some o ∧ o.cls = .type "StopIteration") → E (.ref e) { s with heap := h' }) :
    wpAny (model prog w) A (Builtin.«zip.__next__» ⟨[.ref z], []⟩) Q E s := by
  obtain ⟨hp, g, d, tk0, os⟩ := s
  show wpAny _ _ (field (.ref z) 2 >>= _) _ _ _
  refine wpAny_bind (wpAny_field hz rfl (x := .bool false) rfl ?_)
  show wpAny _ _ (field (.ref z) 3 >>= _) _ _ _
  refine wpAny_bind (wpAny_field hz rfl (x := .ref TI) rfl ?_)
  refine wpAny_bind (wpAny_seqItems hTI rfl ?_)
  show wpAny _ _ (Builtin.SmallTypes.ownedTupleIsFree (.ref z) >>= _) _ _ _
  refine wpAny_bind (wpAny_tupleHeld_zip hz hT fun g0 hz0 hs0 => ?_)
  replace hs0 : Heap.SameBut z hp g0 := hs0
  simp only [Bool.false_eq_true, if_false]
  refine wpAny_bind ?_
  rw [← Array.forIn_toList]
  simp only [List.forIn_cons, List.forIn_nil]
  refine wpAny_bind (wpAny_bind (wpAny_holding ?_))
  show wpAny _ _ (Builtin.SmallTypes.nextOf (.ref i1) >>= _) _ _ ⟨g0, g, d, tk0, os⟩
  refine wpAny_bind (D1.done ⟨g0, g, d, tk0, os⟩ _ _ (D1.over st1 hs0 S.zf1) fun q e hq he => ?_)
  replace hq : Heap.ExtBut i1 g0 q := hq
  exact hE q e (fun c o cz c1 _ x => hq _ _ c1 (hs0.extBut _ _ cz x)) he
/-- the zip's state ahead of its turn i -/
def ZipAt (z TI TO i1 i2 : Addr) (St1 St2 : Nat → Heap → Prop) (i : Nat) (h : Heap) : Prop :=
  IsTupOf2 h TI (.ref i1) (.ref i2) ∧ St1 i h ∧ St2 i h ∧ ((IsZip h z TI TO .none ∧ ∃ a1 a2, IsTupOf2 h TO a1 a2) ∨
    ∃ (T : Addr) (f : Bool) (oT : Obj), IsZipHeld h z TI TO T f ∧ h.get? T = some oT ∧ oT.cls = .type "tuple" ∧ T ≠ z ∧ T ≠ i1 ∧ T ≠ i2 ∧ T ≠ TI)
theorem zipAt_type {h : Heap} (x : ZipAt z TI TO i1 i2 St1 St2 i h) {s : Shared} (e : s.heap = h) : s.TypeIs (.ref z) "zip" := by
  subst e
  obtain ⟨_, _, _, h | ⟨T, f, oT, h, _⟩⟩ := x
  · exact ⟨_, h.1, rfl⟩
  · exact ⟨_, h, rfl⟩
theorem zipAt_item {Q : Option Value → Shared → Prop} (S : ZipSep2 z TI TO i1 i2 fp1 fp2) (D1 : Draws prog w A.in1 i1 fp1 n1 P1 St1) (D2 : Draws prog w A.in1 i2 fp2 n2 P2 St2)
    (x : ZipAt z TI TO i1 i2 St1 St2 i s.heap) (lt1 : i < n1) (lt2 : i < n2)
    (hQ : ∀ x1 x2 h' tk, P1 i x1 → P2 i x2 → ZipAt z TI TO i1 i2 St1 St2 (i + 1) h' → IsTupOf2 h' s.heap.objs.size x1 x2 →
      (∀ c o, c ≠ z → c ≠ TO → c ≠ i1 → c ≠ i2 → s.heap.get? c = some o → h'.get? c = some o) → Q (some (.ref s.heap.objs.size)) { s with heap := h', toks := tk }) :
    wpAny (model prog w) A (pyNext (.ref z)) Q E s := by
  have hTy := zipAt_type x rfl
  obtain ⟨hTI, st1, st2, ⟨hz, a1, a2, hTO⟩ | ⟨T, f, oT, hz, hT, hc, t1, t2, t3, t4⟩⟩ := x
  · unfold pyNext
    refine wpAny_bind (wpAny_attempt (wpAny_callSpecial?_slot (name := Str.ofString "__next__") hTy F.slot_zip_next (wpAny_call_entry F.slot_zip_next hTy F.entry_zip_next
      (zipD2_next_item S D1 D2 hz hTI hTO st1 st2 lt1 lt2 fun x1 x2 h' tk p1 p2 hz' hTO' s1' s2' hp hsz hk => wpAny_pure ?_) (F.args_zip_next_1 _))))
    have zl : z < s.heap.objs.size := Heap.lt_size hz
    have il : TI < s.heap.objs.size := Heap.lt_size hTI
    obtain ⟨_, e1⟩ := D1.live _ _ st1
    obtain ⟨_, e2⟩ := D2.live _ _ st2
    have l1 : i1 < s.heap.objs.size := Heap.lt_size e1
    have l2 : i2 < s.heap.objs.size := Heap.lt_size e2
    exact hQ x1 x2 h' tk p1 p2 ⟨hk _ _ S.TIz S.TITO S.TIi1 S.TIi2 hTI, s1', s2', .inr ⟨s.heap.objs.size, false, _, hz', hp, rfl, Nat.ne_of_gt zl, Nat.ne_of_gt l1, Nat.ne_of_gt l2, Nat.ne_of_gt il⟩⟩ hp hk
  · unfold pyNext
    refine wpAny_bind (wpAny_attempt (wpAny_callSpecial?_slot (name := Str.ofString "__next__") hTy F.slot_zip_next (wpAny_call_entry F.slot_zip_next hTy F.entry_zip_next
      (zipHeld_item S D1 D2 hz hT hTI st1 st2 lt1 lt2 fun x1 x2 h' tk p1 p2 hz' s1' s2' hp hsz hk => wpAny_pure ?_) (F.args_zip_next_1 _))))
    exact hQ x1 x2 h' tk p1 p2 ⟨hk _ _ S.TIz S.TIi1 S.TIi2 hTI, s1', s2', .inr ⟨T, true, oT, hz', hk _ _ t1 t2 t3 hT, hc, t1, t2, t3, t4⟩⟩ hp fun c o cz _ c1 c2 e => hk c o cz c1 c2 e
theorem zipAt_done {Q : Option Value → Shared → Prop} (S : ZipSep2 z TI TO i1 i2 fp1 fp2) (D1 : Draws prog w A.in1 i1 fp1 n1 P1 St1) (D2 : Draws prog w A.in1 i2 fp2 n2 P2 St2)
    (x : ZipAt z TI TO i1 i2 St1 St2 n1 s.heap) (hn : n1 ≤ n2)
    (hQ : ∀ h' tk, (∀ c o, c ≠ z → c ≠ TO → c ≠ i1 → c ≠ i2 → s.heap.get? c = some o → h'.get? c = some o) → Q none { s with heap := h', toks := tk }) : wpAny (model prog w) A (pyNext (.ref z)) Q E s := by
  have hTy := zipAt_type x rfl
  obtain ⟨hTI, st1, st2, ⟨hz, a1, a2, hTO⟩ | ⟨T, f, oT, hz, hT, hc, t1, t2, t3, t4⟩⟩ := x
  · unfold pyNext
    refine wpAny_bind (wpAny_attempt (wpAny_callSpecial?_slot (name := Str.ofString "__next__") hTy F.slot_zip_next (wpAny_call_entry F.slot_zip_next hTy F.entry_zip_next
      (zipD2_next_end S D1 D2 hz hTI hTO st1 st2 (Nat.le_refl _) hn (.inl rfl) fun h' tk e hk he => ?_) (F.args_zip_next_1 _))))
    obtain ⟨o, ho, hc⟩ := he
    refine wpAny_bind (wpAny_isInstance (T := "StopIteration") (b := true) ⟨o, ho, hc⟩ isSubtype_stop ?_)
    exact wpAny_pure (hQ _ _ hk)
  · unfold pyNext
    refine wpAny_bind (wpAny_attempt (wpAny_callSpecial?_slot (name := Str.ofString "__next__") hTy F.slot_zip_next (wpAny_call_entry F.slot_zip_next hTy F.entry_zip_next
      (zipHeld_end S D1 hz hT hTI st1 fun h' e hk he => ?_) (F.args_zip_next_1 _))))
    obtain ⟨o, ho, hc⟩ := he
    refine wpAny_bind (wpAny_isInstance (T := "StopIteration") (b := true) ⟨o, ho, hc⟩ isSubtype_stop ?_)
    exact wpAny_pure (hQ _ _ fun c o cz _ c1 c2 e => hk c o cz c1 c2 e)
/-- only a list apart from the zip's cells has changed -/
theorem zipAt_frame {h h' : Heap} {L : Addr} {oL : Obj} (D1 : Draws prog w A i1 fp1 n1 P1 St1) (D2 : Draws prog w A i2 fp2 n2 P2 St2) (x : ZipAt z TI TO i1 i2 St1 St2 i h)
    (hL : h.get? L = some oL) (hc : oL.cls = .type "list") (nz : L ≠ z) (nTI : L ≠ TI) (nTO : L ≠ TO) (n1' : L ∉ fp1) (n2' : L ∉ fp2) (k : ∀ b o, b ≠ L → h.get? b = some o → h'.get? b = some o) : ZipAt z TI TO i1 i2 St1 St2 i h' := by
  obtain ⟨hTI, st1, st2, q⟩ := x
  refine ⟨k _ _ nTI.symm hTI, D1.frame _ _ _ st1 fun b hb o e => k b o (fun q => n1' (q ▸ hb)) e, D2.frame _ _ _ st2 fun b hb o e => k b o (fun q => n2' (q ▸ hb)) e, ?_⟩
  rcases q with ⟨hz, a1, a2, hTO⟩ | ⟨T, f, oT, hz, hT, hcT, t1, t2, t3, t4⟩
  · exact .inl ⟨k _ _ nz.symm hz, a1, a2, k _ _ nTO.symm hTO⟩
  · refine .inr ⟨T, f, oT, k _ _ nz.symm hz, k _ _ (fun q => ?_) hT, hcT, t1, t2, t3, t4⟩
    subst q
    rw [hT] at hL
    cases hL
    rw [hcT] at hc
    injection hc with hc
    exact absurd hc (by decide)
theorem ne_up {a b z0 : Nat} (h : a < z0) (h2 : z0 ≤ b) : b ≠ a := fun e => absurd (Nat.lt_of_lt_of_le h h2) (by rw [e]; exact Nat.lt_irrefl _)
/-- the tuples collected so far: they stand, the i-th with what both sources gave -/
def PairsOf (P1 P2 : Nat → Value → Prop) (h : Heap) (z0 : Nat) (acc : Array Value) : Prop :=
  ∀ j v, acc[j]? = some v → ∃ (T : Addr) (x y : Value), v = .ref T ∧ z0 ≤ T ∧ IsTupOf2 h T x y ∧ P1 j x ∧ P2 j y
theorem extend_zip (S : ZipSep2 z TI TO i1 i2 fp1 fp2) (D1 : Draws prog w A.in1.in1 i1 fp1 n1 P1 St1) (D2 : Draws prog w A.in1.in1 i2 fp2 n1 P2 St2) (hn : n1 ≤ sizeLine)
    (L : Addr) (z0 : Nat) (nz : L ≠ z) (nTI : L ≠ TI) (nTO : L ≠ TO) (nf1 : L ∉ fp1) (nf2 : L ∉ fp2) (hcells : z < z0 ∧ TO < z0 ∧ i1 < z0 ∧ i2 < z0) (hL0 : L < z0) (res : Value) {R : Result → Shared → Prop} :
    ∀ (k i : Nat) (s : Shared) (acc : Array Value) (c : Nat), n1 - i = k → i ≤ n1 → z0 ≤ s.heap.objs.size → ZipAt z TI TO i1 i2 St1 St2 i s.heap → s.heap.get? L = some { cls := .type "list", dict := none, data := .seq acc c, slots := #[] } →
    acc.size = i → PairsOf P1 P2 s.heap z0 acc →
    (∀ h' tk acc' c', (∀ b o, b ≠ L → b ≠ z → b ≠ TO → b ≠ i1 → b ≠ i2 → s.heap.get? b = some o → h'.get? b = some o) → h'.get? L = some { cls := .type "list", dict := none, data := .seq acc' c', slots := #[] } → acc'.size = n1 → PairsOf P1 P2 h' z0 acc' →
      R (.ok (.ret res)) { s with heap := h', toks := tk }) →
    codeAny (model prog w) A (.builtin "list.extend.loop" ⟨[.ref L, .ref z, res], []⟩) R s := by
  intro k
  induction k with
  | zero =>
    intro i s acc c hk hi hz0 st hL ha hp hR
    have hin : i = n1 := by omega
    subst hin
    refine codeAny_builtin F.entry_extend_loop ?_
    rw [Around.under_plainId F.plain_extend_loop _]
    show wpAny _ A.in1 (pyNext (.ref z) >>= _) _ _ s
    refine wpAny_bind (zipAt_done S D1 D2 st (Nat.le_refl _) fun h' tk hk => ?_)
    have nL1 : L ≠ i1 := fun q => nf1 (q ▸ S.mem1)
    have nL2 : L ≠ i2 := fun q => nf2 (q ▸ S.mem2)
    refine wpAny_pure (hR h' tk acc c (fun b o b1 b2 b3 b4 b5 e => hk b o b2 b3 b4 b5 e) (hk _ _ nz nTO nL1 nL2 hL) ha fun j v hv => ?_)
    obtain ⟨T, x, y, rfl, hT, hq, px, py⟩ := hp j v hv
    exact ⟨T, x, y, rfl, hT, hk _ _ (ne_up hcells.1 hT) (ne_up hcells.2.1 hT) (ne_up hcells.2.2.1 hT) (ne_up hcells.2.2.2 hT) hq, px, py⟩
  | succ k ih =>
    intro i s acc c hk hi hz0 st hL ha hp hR
    have hlt : i < n1 := by omega
    refine codeAny_builtin F.entry_extend_loop ?_
    rw [Around.under_plainId F.plain_extend_loop _]
    show wpAny _ A.in1 (pyNext (.ref z) >>= _) _ _ s
    refine wpAny_bind (zipAt_item S D1 D2 st hlt hlt fun x1 x2 h' tk px py st' hpr hk' => ?_)
    have nL1 : L ≠ i1 := fun q => nf1 (q ▸ S.mem1)
    have nL2 : L ≠ i2 := fun q => nf2 (q ▸ S.mem2)
    have hL' := hk' _ _ nz nTO nL1 nL2 hL
    have hsL : L < s.heap.objs.size := Heap.lt_size hL
    show wpAny _ A.in1 (updateSeq L (·.push (.ref s.heap.objs.size)) >>= _) _ _ ({ s with heap := h', toks := tk } : Shared)
    refine wpAny_bind ?_
    refine wpAny_updateSeq (s := { s with heap := h', toks := tk }) hL' rfl (wpAny_pure ⟨plainId_quiet F.plain_extend_loop _, ?_⟩) (by rw [ha]; omega) (by show (acc.push _).size ≤ sizeLine + 1; rw [Array.size_push, ha]; omega)
    have oth : ∀ b o, b ≠ L → h'.get? b = some o → (h'.update L (Obj.mapSeq (·.push (.ref s.heap.objs.size)))).get? b = some o := fun b o hb e => (Heap.get?_update_other _ _ (Ne.symm hb)).trans e
    have hsz : s.heap.objs.size < h'.objs.size := Heap.lt_size hpr
    have hup : (h'.update L (Obj.mapSeq (·.push (.ref s.heap.objs.size)))).objs.size = h'.objs.size := (Heap.SameBut.update ..).1
    refine ih (i + 1) ({ s with heap := h'.update L (Obj.mapSeq (·.push (.ref s.heap.objs.size))), toks := tk } : Shared) (acc.push (.ref s.heap.objs.size)) _ (by omega) hlt (by show z0 ≤ (h'.update L _).objs.size; rw [hup]; omega)
      (zipAt_frame D1 D2 st' hL' rfl nz nTI nTO nf1 nf2 oth) (Heap.get?_update_self _ hL' rfl) (by rw [Array.size_push, ha]) (fun j v hv => ?_) fun h2 tk2 acc2 c2 hk2 hL2 ha2 hp2 => ?_
    · rw [Array.getElem?_push] at hv
      split at hv
      · rename_i e
        cases hv
        rw [e, ha]
        exact ⟨_, x1, x2, rfl, hz0, oth _ _ (Nat.ne_of_gt hsL) hpr, px, py⟩
      · obtain ⟨T, x, y, rfl, hT, hq, qx, qy⟩ := hp j v hv
        exact ⟨T, x, y, rfl, hT, oth _ _ (ne_up hL0 hT) (hk' _ _ (ne_up hcells.1 hT) (ne_up hcells.2.1 hT) (ne_up hcells.2.2.1 hT) (ne_up hcells.2.2.2 hT) hq), qx, qy⟩
    · exact hR h2 tk2 acc2 c2 (fun b o b1 b2 b3 b4 b5 e => hk2 b o b1 b2 b3 b4 b5 (oth b o b1 (hk' b o b2 b3 b4 b5 e))) hL2 ha2 hp2
theorem zip_nolen : typeLookup (.type "zip") "__len__" = pure none := am_miss_of_fast (by decide +kernel)
theorem zip_nohint : typeLookup (.type "zip") "__length_hint__" = pure none := am_miss_of_fast (by decide +kernel)
/-- what a zip gives, collected -/
theorem collect_zip {Q : List Value → Shared → Prop} (S : ZipSep2 z TI TO i1 i2 fp1 fp2) (D1 : Draws prog w A.in1.in1 i1 fp1 n1 P1 St1) (D2 : Draws prog w A.in1.in1 i2 fp2 n1 P2 St2) (hn : n1 ≤ sizeLine)
    (hz : IsZip s.heap z TI TO .none) (hTI : IsTupOf2 s.heap TI (.ref i1) (.ref i2)) (hTO : ∃ a1 a2, IsTupOf2 s.heap TO a1 a2) (st1 : St1 0 s.heap) (st2 : St2 0 s.heap) (lf1 : ∀ b ∈ fp1, b < s.heap.objs.size) (lf2 : ∀ b ∈ fp2, b < s.heap.objs.size)
    (hQ : ∀ h' tk acc, (∀ b o, b ≠ z → b ≠ TO → b ≠ i1 → b ≠ i2 → s.heap.get? b = some o → h'.get? b = some o) → acc.size = n1 → PairsOf P1 P2 h' s.heap.objs.size acc → Q acc.toList { s with heap := h', toks := tk }) :
    wpAny (model prog w) A (collect (.ref z)) Q E s := by
  have zl : z < s.heap.objs.size := Heap.lt_size hz
  have il : TI < s.heap.objs.size := Heap.lt_size hTI
  have ol : TO < s.heap.objs.size := by obtain ⟨_, _, q⟩ := hTO; exact Heap.lt_size q
  have l1 := lf1 _ S.mem1
  have l2 := lf2 _ S.mem2
  have nf1 : s.heap.objs.size ∉ fp1 := fun h => Nat.lt_irrefl _ (lf1 _ h)
  have nf2 : s.heap.objs.size ∉ fp2 := fun h => Nat.lt_irrefl _ (lf2 _ h)
  unfold collect
  refine wpAny_bind (wpAny_runValue (codeAny_builtin F.entry_proto_collect ?_))
  rw [Around.under_plainId F.plain_proto_collect _]
  show wpAny _ A.in1 (newList [] >>= fun l => again (.builtin "list.__iadd__" ⟨[l, .ref z], []⟩)) _ _ s
  refine wpAny_bind (wpAny_newObj_type ?_)
  refine wpAny_pure ⟨plainId_quiet F.plain_list_iadd _, codeAny_builtin F.entry_list_iadd ?_⟩
  rw [Around.under_plainId F.plain_list_iadd _]
  have k1 : ∀ b o, s.heap.get? b = some o → (s.heap.push { cls := .type "list", data := .seq ([] : List Value).toArray }).get? b = some o := fun b o e => Heap.get?_push_of_some _ e
  have hL : (s.heap.push { cls := .type "list", data := .seq ([] : List Value).toArray }).get? s.heap.objs.size = some { cls := .type "list", data := .seq ([] : List Value).toArray } := Heap.get?_push_size _ rfl
  have hTy : Shared.TypeIs { s with heap := s.heap.push { cls := .type "list", data := .seq ([] : List Value).toArray } } (.ref z) "zip" := ⟨_, k1 _ _ hz, rfl⟩
  show wpAny _ A.in1 (Builtin.List.listExtendWith (.ref s.heap.objs.size) (.ref z) (.ref s.heap.objs.size)) _ _ _
  unfold Builtin.List.listExtendWith
  refine wpAny_bind (wpAny_typeOf hTy ?_)
  have h1 : Builtin.List.listSameRef (.ref s.heap.objs.size) (.ref z) = false := by simp [Builtin.List.listSameRef, Nat.ne_of_gt zl]
  have h2 : (Value.type "zip" == Value.type "list") = false := by decide
  have h3 : (Value.type "zip" == Value.type "tuple") = false := by decide
  simp only [h1, h2, h3, Bool.or_false, Bool.false_eq_true, if_false]
  refine wpAny_bind (wpAny_pyIter_zip (k1 _ _ hz) ?_)
  refine wpAny_bind (wpAny_holding ?_)
  unfold Builtin.List.listLengthHint
  refine wpAny_bind (wpAny_specialOf hTy zip_nolen ?_)
  show wpAny _ A.in1 (specialOf (Value.ref z) (Str.ofString "__length_hint__") >>= _) _ _ _
  refine wpAny_bind (wpAny_specialOf hTy zip_nohint ?_)
  refine wpAny_pure ?_
  show wpAny _ A.in1 (rule "list.extend.makes-room" >>= fun _ => Builtin.List.listTouch (.ref s.heap.objs.size) >>= fun _ =>
    again (.builtin "list.extend.loop" ⟨[.ref s.heap.objs.size, .ref z, .ref s.heap.objs.size], []⟩)) _ _ _
  refine wpAny_bind (wpAny_rule ?_)
  refine wpAny_bind ?_
  show wpAny _ A.in1 (updateSeq s.heap.objs.size (·.push .none) >>= fun _ => updateSeq s.heap.objs.size (·.pop)) _ _ _
  refine wpAny_bind (wpAny_updateSeq hL rfl ?_)
  have hL2 := Heap.get?_update_self (Obj.mapSeq (·.push Value.none)) hL rfl
  refine wpAny_updateSeq hL2 rfl ?_
  have hL3 := Heap.get?_update_self (Obj.mapSeq (·.pop)) hL2 rfl
  have oth : ∀ b o, s.heap.get? b = some o →
      (((s.heap.push { cls := .type "list", data := .seq ([] : List Value).toArray }).update s.heap.objs.size (Obj.mapSeq (·.push Value.none))).update s.heap.objs.size (Obj.mapSeq (·.pop))).get? b = some o :=
    fun b o e => (Heap.get?_update_other _ _ (Nat.ne_of_gt (Heap.lt_size e))).trans ((Heap.get?_update_other _ _ (Nat.ne_of_gt (Heap.lt_size e))).trans (k1 b o e))
  have hsz : (((s.heap.push { cls := .type "list", data := .seq ([] : List Value).toArray }).update s.heap.objs.size (Obj.mapSeq (·.push Value.none))).update s.heap.objs.size (Obj.mapSeq (·.pop))).objs.size = s.heap.objs.size + 1 := by
    rw [(Heap.SameBut.update ..).1, (Heap.SameBut.update ..).1, Heap.size_push]
  obtain ⟨a1, a2, hTO⟩ := hTO
  refine wpAny_pure ⟨plainId_quiet F.plain_extend_loop _, extend_zip (z0 := s.heap.objs.size + 1) S D1 D2 hn s.heap.objs.size (Nat.ne_of_gt zl) (Nat.ne_of_gt il) (Nat.ne_of_gt ol) nf1 nf2 ⟨Nat.lt_succ_of_lt zl, Nat.lt_succ_of_lt ol, Nat.lt_succ_of_lt l1, Nat.lt_succ_of_lt l2⟩ (Nat.lt_succ_self _) _ n1 0 _ _ _ rfl (Nat.zero_le _) (Nat.le_of_eq hsz.symm)
    ⟨oth _ _ hTI, D1.frame _ _ _ st1 fun b _ o e => oth b o e, D2.frame _ _ _ st2 fun b _ o e => oth b o e, .inl ⟨oth _ _ hz, a1, a2, oth _ _ hTO⟩⟩ hL3 rfl (fun j v hv => by simp at hv) fun h' tk acc c' hk hL' ha hp => ?_⟩
  show wpAny _ A (load s.heap.objs.size >>= _) _ _ _
  refine wpAny_bind (wpAny_load hL' ?_)
  refine wpAny_pure (hQ h' tk acc (fun b o b1 b2 b3 b4 e => hk b o (Nat.ne_of_lt (Heap.lt_size e)) b1 b2 b3 b4 (oth b o e)) ha fun j v hv => ?_)
  obtain ⟨T, x, y, e, hT, r⟩ := hp j v hv
  exact ⟨T, x, y, e, Nat.le_of_succ_le hT, r⟩
end
end K66
namespace K66
open PySem PySem.Spec PyProof.Rows L2
open PySem.W (EachIs)
/-! ## zip over lists and tuples, at the layer -/
def Src (K : PySem.W.Frag) (H : Hp) (a : Addr) (xs : List V) : Prop := SqL K H a xs ∨ SqT K H a xs
section
variable {X : Cx} {pins : List (Addr × Obj)} {σ : L2.St} {H : Hp} {s : Shared}
/-- a source's iterator: how it begins, what it draws -/
theorem src_draws (I : Inv X pins σ H s) {a : Addr} {xs : List V} (h : Src X.K H a xs) : ∃ (us : List Value) (o : Obj) (Hs : Heap → Prop) (St : Addr → Nat → Heap → Prop), Vals xs us ∧ us.length ≤ sizeLine ∧ a < s.heap.objs.size ∧ Hs s.heap ∧ Begins (.ref a) o Hs ∧
    (∀ (A : Around) (it : Addr), A.handled = none → a ≠ it → Draws X.prog X.w A it [it, a] us.length (fun i v => us[i]? = some v) (St it)) ∧
    (∀ (it : Addr) (h' : Heap), (∀ b ob, s.heap.get? b = some ob → h'.get? b = some ob) → h'.get? it = some o → St it 0 h') := by
  rcases h with h | h
  · obtain ⟨its, r, pl, hz⟩ := I.list h
    have hl := r.length
    refine ⟨its, _, _, fun it i h => h.IsListIter it a i ∧ h.IsList a its.toArray, r, by omega, pl.lt, pl.isList, begins_list a its.toArray, fun A it hh hne => ?_, fun it h' k e => ⟨⟨_, e, rfl, rfl⟩, pl.isList.at fun o q => k a o q⟩⟩
    have := Draws.list (prog := X.prog) (w := X.w) hh it a hne its.toArray
    simpa using this
  · obtain ⟨its, r, pl, hz⟩ := I.tuple h
    have hl := r.length
    obtain ⟨o, ho, hc, n, hd⟩ := id pl
    have pl' : s.heap.IsTuple a its.toArray := ⟨o, ho, hc, n, hd⟩
    refine ⟨its, _, _, fun it i h => h.IsTupleIter it a i ∧ h.IsTuple a its.toArray, r, by omega, Heap.lt_size ho, pl', begins_tuple a its.toArray, fun A it hh hne => ?_, fun it h' k e => ⟨⟨_, e, rfl, rfl⟩, pl'.at fun o q => k a o q⟩⟩
    have := Draws.tuple (prog := X.prog) (w := X.w) hh it a hne its.toArray
    simpa using this
/-- the raw form: zip(a, b) is made, and collected: the pairs at Ts -/
theorem zip_raw (I : Inv X pins σ H s) (hc : X.calm = true) {a b : Addr} {xs ys : List V} (ha : Src X.K H a xs) (hb : Src X.K H b ys) (hl : xs.length = ys.length) {E : Value → Shared → Prop} {Q : Value → (List Value → Shared → Prop) → Shared → Prop} {G : List Value → Shared → Prop} {A : Around} (hA : A.handled = none)
    (hq : ∀ (v : Value) (s1 : Shared), s1.TypeIs v "zip" → (∀ (B : Around) (R : List Value → Shared → Prop) (E' : Value → Shared → Prop), B.handled = none → (∀ us s2, G us s2 → R us s2) → wpAny (model X.prog X.w) B (collect v) R E' s1) → Q v G s1)
    (hG : ∀ (us1 us2 : List Value) (Ts : List Addr) (h' : Heap) (tk : Nat), Vals xs us1 → Vals ys us2 → Ts.length = xs.length → (∀ c o, s.heap.get? c = some o → h'.get? c = some o) →
      (∀ (j : Nat) (T : Addr), Ts[j]? = some T → s.heap.objs.size ≤ T ∧ ∃ x y, us1[j]? = some x ∧ us2[j]? = some y ∧ IsTupOf2 h' T x y) → G (Ts.map Value.ref) { s with heap := h', toks := tk }) :
    wpAny (model X.prog X.w) A (call (.type "zip") [.ref a, .ref b]) (fun v s1 => Q v G s1) E s := by
  obtain ⟨us1, o1, H1, St1, r1, z1, l1, p1, B1, D1, e1⟩ := src_draws I ha
  obtain ⟨us2, o2, H2, St2, r2, z2, l2, p2, B2, D2, e2⟩ := src_draws I hb
  have hl1 := r1.length
  have hl2 := r2.length
  have hlu : us2.length = us1.length := by omega
  refine zip_begins2 B1 B2 p1 p2 fun h' hz hTI hTO g1 g2 hsz hk => hq _ _ ⟨_, hz, rfl⟩ fun B R E' hB hR => ?_
  have na1 : a ≠ s.heap.objs.size := Nat.ne_of_lt l1
  have nb2 : b ≠ s.heap.objs.size + 1 := Nat.ne_of_lt (Nat.lt_succ_of_lt l2)
  have up : ∀ (c : Addr) (k : Nat), c < s.heap.objs.size → s.heap.objs.size + k ≠ c := fun c k h => Nat.ne_of_gt (Nat.lt_of_lt_of_le h (Nat.le_add_right _ _))
  have S : ZipSep2 (s.heap.objs.size + 4) (s.heap.objs.size + 2) (s.heap.objs.size + 3) s.heap.objs.size (s.heap.objs.size + 1) [s.heap.objs.size, a] [s.heap.objs.size + 1, b] := by
    refine ⟨?_, ?_, ?_, ?_, ?_, ?_, ?_, ?_, ?_, ?_, ?_, ?_, ?_⟩
    · exact fun e => absurd (Nat.add_left_cancel e) (by decide)
    · exact fun e => absurd (Nat.add_left_cancel e) (by decide)
    · exact fun e => absurd (Nat.add_left_cancel e) (by decide)
    · exact fun e => absurd (Nat.add_left_cancel (e.trans (Nat.add_zero _).symm)) (by decide)
    · exact List.mem_cons_self
    · simp only [List.mem_cons, List.not_mem_nil, or_false, not_or]
      exact ⟨fun e => absurd (Nat.add_left_cancel (e.trans (Nat.add_zero _).symm)) (by decide), up a 4 l1⟩
    · simp only [List.mem_cons, List.not_mem_nil, or_false, not_or]
      exact ⟨fun e => absurd (Nat.add_left_cancel (e.trans (Nat.add_zero _).symm)) (by decide), up a 3 l1⟩
    · exact fun e => absurd (Nat.add_left_cancel e) (by decide)
    · exact List.mem_cons_self
    · simp only [List.mem_cons, List.not_mem_nil, or_false, not_or]
      exact ⟨fun e => absurd (Nat.add_left_cancel e) (by decide), up b 4 l2⟩
    · simp only [List.mem_cons, List.not_mem_nil, or_false, not_or]
      exact ⟨fun e => absurd (Nat.add_left_cancel e) (by decide), up b 3 l2⟩
    · simp only [List.mem_cons, List.not_mem_nil, or_false, not_or]
      exact ⟨fun e => absurd (Nat.add_left_cancel ((Nat.add_zero _).trans e)) (by decide), Nat.ne_of_gt l2⟩
    · simp only [List.mem_cons, List.not_mem_nil, or_false, not_or]
      exact ⟨fun e => absurd (Nat.add_left_cancel (e.trans (Nat.add_zero _).symm)) (by decide), up a 1 l1⟩
  have d1 := D1 B.in1.in1 s.heap.objs.size hB na1
  have d2 := D2 B.in1.in1 (s.heap.objs.size + 1) hB nb2
  rw [hlu] at d2
  have lt5 : ∀ c, c < s.heap.objs.size + 5 → c < h'.objs.size := fun c h => by rw [hsz]; exact h
  refine collect_zip (s := { s with heap := h' }) S d1 d2 (by rw [← hl1, hl1]; exact z1) hz hTI ⟨_, _, hTO⟩ (e1 _ h' hk g1) (e2 _ h' hk g2) (fun c hc => ?_) (fun c hc => ?_) fun h2 tk acc hk2 hn hp => hR _ _ ?_
  · rcases List.mem_cons.mp hc with rfl | hc
    · exact lt5 _ (Nat.lt_add_of_pos_right (by decide))
    · rw [List.mem_singleton.mp hc]
      exact lt5 _ (Nat.lt_of_lt_of_le l1 (Nat.le_add_right _ _))
  · rcases List.mem_cons.mp hc with rfl | hc
    · exact lt5 _ (Nat.add_lt_add_left (by decide) _)
    · rw [List.mem_singleton.mp hc]
      exact lt5 _ (Nat.lt_of_lt_of_le l2 (Nat.le_add_right _ _))
  · have hall : ∀ v ∈ acc.toList, ∃ T : Addr, v = .ref T := fun v hv => by
      obtain ⟨j, hj, e⟩ := List.getElem_of_mem hv
      obtain ⟨T, x, y, e2, _⟩ := hp j v (by rw [← Array.getElem?_toList, List.getElem?_eq_getElem hj, e])
      exact ⟨T, e2⟩
    obtain ⟨Ts, hTs⟩ : ∃ Ts : List Addr, acc.toList = Ts.map Value.ref := by
      revert hall
      generalize acc.toList = l
      induction l with
      | nil => exact fun _ => ⟨[], rfl⟩
      | cons v l ih =>
        intro hall
        obtain ⟨T, rfl⟩ := hall v List.mem_cons_self
        obtain ⟨Ts, rfl⟩ := ih fun u hu => hall u (List.mem_cons_of_mem _ hu)
        exact ⟨T :: Ts, rfl⟩
    rw [hTs]
    refine hG us1 us2 Ts h2 tk r1 r2 ?_ (fun c o e => ?_) fun j T hj => ?_
    · have := congrArg List.length hTs
      rw [Array.length_toList, hn, List.length_map] at this
      omega
    · have hc := Heap.lt_size e
      exact hk2 c o (up c 4 hc).symm (up c 3 hc).symm (Nat.ne_of_lt hc) (up c 1 hc).symm (hk c o e)
    · obtain ⟨T', x, y, e, hT, hq, px, py⟩ := hp j (.ref T) (by rw [← Array.getElem?_toList, hTs, List.getElem?_map, hj]; rfl)
      cases e
      exact ⟨Nat.le_trans (by rw [show ({ s with heap := h' } : Shared).heap.objs.size = s.heap.objs.size + 5 from hsz]; exact Nat.le_add_right _ _) hT, x, y, px, py, hq⟩
/-- the new pairs on the abstract heap -/
def pairN (Ts : List Addr) (ps : List (V × V)) : Hp := fun b => ((Ts.zip ps).lookup b).map fun p => .tup [p.1, p.2]
theorem pairN_some : ∀ {Ts : List Addr} {ps : List (V × V)} {b : Addr} {o : HO}, pairN Ts ps b = some o → ∃ (j : Nat) (p : V × V), Ts[j]? = some b ∧ ps[j]? = some p ∧ o = .tup [p.1, p.2]
  | [], _, _, _, h => by simp [pairN] at h
  | _ :: _, [], _, _, h => by simp [pairN] at h
  | T :: Ts, p :: ps, b, o, h => by
    by_cases e : b = T
    · subst e
      refine ⟨0, p, rfl, rfl, ?_⟩
      unfold pairN at h
      rw [List.zip_cons_cons, List.lookup_cons, beq_self_eq_true] at h
      simpa using h.symm
    · have e2 : (b == T) = false := by simpa using e
      have h' : pairN Ts ps b = some o := by
        unfold pairN at h ⊢
        rw [List.zip_cons_cons, List.lookup_cons, e2] at h
        exact h
      obtain ⟨j, q, a1, a2, a3⟩ := pairN_some h'
      exact ⟨j + 1, q, by simpa using a1, by simpa using a2, a3⟩
theorem pairN_there : ∀ {Ts : List Addr} {ps : List (V × V)} {j : Nat} {b : Addr}, Ts.length = ps.length → Ts[j]? = some b → ∃ o, pairN Ts ps b = some o
  | [], _, _, _, _, h => by simp at h
  | _ :: _, [], _, _, h, _ => by cases h
  | T :: Ts, p :: ps, j, b, hl, h => by
    unfold pairN
    rw [List.zip_cons_cons, List.lookup_cons]
    by_cases e : b = T
    · subst e
      rw [beq_self_eq_true]
      exact ⟨_, rfl⟩
    · have e2 : (b == T) = false := by simpa using e
      rw [e2]
      cases j with
      | zero => exact absurd (by simpa using h : T = b).symm e
      | succ j => exact pairN_there (Ts := Ts) (ps := ps) (j := j) (by simpa using hl) (by simpa using h)
theorem vals_get_back : ∀ {xs : List V} {us : List Value} {j : Nat} {u : Value}, Vals xs us → us[j]? = some u → ∃ x, xs[j]? = some x ∧ RelV x u
  | _, _, _, _, .nil, h => by simp at h
  | _, _, 0, _, .cons a _, h => by
    simp at h
    subst h
    exact ⟨_, rfl, a⟩
  | _, _, j + 1, _, .cons _ t, h => by
    obtain ⟨x, e, r⟩ := vals_get_back (j := j) t (by simpa using h)
    exact ⟨x, by simpa using e, r⟩
theorem paired_of_get {α β : Type} {R : α → β → Prop} : ∀ {as : List α} {bs : List β}, as.length = bs.length → (∀ (j : Nat) (a : α) (b : β), as[j]? = some a → bs[j]? = some b → R a b) → Paired R as bs
  | [], [], _, _ => .nil
  | [], _ :: _, h, _ => by cases h
  | _ :: _, [], h, _ => by cases h
  | a :: as, b :: bs, hl, h => .cons (h 0 a b rfl rfl) (paired_of_get (by simpa using hl) fun j x y h1 h2 => h (j + 1) x y (by simpa using h1) (by simpa using h2))
/-- what the raw pairs are on the abstract heap: N is the pairs and what else is new -/
theorem pairs_at {xs ys : List V} {us1 us2 : List Value} {Ts : List Addr} {z : Nat} {h' : Heap} (r1 : Vals xs us1) (r2 : Vals ys us2) (hT : Ts.length = xs.length) (hl : xs.length = ys.length)
    (hp : ∀ (j : Nat) (T : Addr), Ts[j]? = some T → z ≤ T ∧ ∃ x y, us1[j]? = some x ∧ us2[j]? = some y ∧ IsTupOf2 h' T x y) :
    Paired (fun (T : Addr) (p : V × V) => z ≤ T ∧ pairN Ts (xs.zip ys) T = some (.tup [p.1, p.2])) Ts (xs.zip ys) ∧
    ∀ (b : Addr) (o : HO), pairN Ts (xs.zip ys) b = some o → ∃ x y its, o = .tup [x, y] ∧ Vals [x, y] its ∧ IsTup h' b its.toArray := by
  have hz : (xs.zip ys).length = xs.length := by rw [List.length_zip, ← hl, Nat.min_self]
  have raw : ∀ (j : Nat) (T : Addr) (p : V × V), Ts[j]? = some T → (xs.zip ys)[j]? = some p → ∃ u1 u2, RelV p.1 u1 ∧ RelV p.2 u2 ∧ IsTupOf2 h' T u1 u2 := fun j T p h1 h2 => by
    obtain ⟨_, u1, u2, g1, g2, g3⟩ := hp j T h1
    obtain ⟨x, e1, q1⟩ := vals_get_back r1 g1
    obtain ⟨y, e2, q2⟩ := vals_get_back r2 g2
    have e : (xs.zip ys)[j]? = some (x, y) := by
      rw [List.getElem?_zip_eq_some]
      exact ⟨e1, e2⟩
    rw [e] at h2
    cases h2
    exact ⟨u1, u2, q1, q2, g3⟩
  refine ⟨paired_of_get (by rw [hz, hT]) fun j T p h1 h2 => ⟨(hp j T h1).1, ?_⟩, fun b o h => ?_⟩
  · obtain ⟨o, e⟩ := pairN_there (ps := xs.zip ys) (by rw [hz, hT]) h1
    obtain ⟨k, q, k1, k2, rfl⟩ := pairN_some e
    obtain ⟨u1, u2, a1, a2, a3⟩ := raw j T p h1 h2
    obtain ⟨w1, w2, b1, b2, b3⟩ := raw k T q k1 k2
    unfold IsTupOf2 at a3 b3
    rw [a3] at b3
    injection b3 with b3
    injection b3 with _ _ b3
    injection b3 with b3 _
    have e3 : u1 = w1 ∧ u2 = w2 := by
      have := congrArg Array.toList b3
      simpa using this
    obtain ⟨rfl, rfl⟩ := e3
    rw [e, a1.inj b1, a2.inj b2]
  · obtain ⟨j, p, h1, h2, rfl⟩ := pairN_some h
    obtain ⟨u1, u2, a1, a2, a3⟩ := raw j b p h1 h2
    exact ⟨p.1, p.2, [u1, u2], rfl, .cons a1 (.cons a2 .nil), ⟨_, a3, rfl, _, rfl⟩⟩
end
end K66
namespace K66
open PySem PySem.Spec PyProof.Rows L2
open PySem.W (EachIs)
/-! ## the order of (round, pour) -/
def encRP (x : Int × Pour) : PyData := .tuple [.int x.1, encPour x.2]
def leRP : Int × Pour → Int × Pour → Bool := PySem.W.dataLe false encRP
theorem alike_all {β : Type} {ef : β → PyData} (h : ∀ a b, PySem.W.alike (ef a) (ef b) = true) : ∀ xs ys : List β, PySem.W.alikeAll (xs.map ef) (ys.map ef) = true
  | [], _ => by simp [PySem.W.alikeAll]
  | _ :: _, [] => by simp [PySem.W.alikeAll]
  | x :: xs, y :: ys => by
    rw [List.map_cons, List.map_cons, PySem.W.alikeAll, h x y, alike_all h xs ys]
    rfl
theorem alike_int (a b : Int) : PySem.W.alike (.int a) (.int b) = true := by simp [PySem.W.alike]
theorem alike_encInts (a b : List Int) : PySem.W.alike (encInts a) (encInts b) = true := by
  unfold encInts
  rw [PySem.W.alike]
  exact alike_all alike_int a b
theorem alike_parts (a b : List (List Int)) : PySem.W.alike (.tuple (a.map encInts)) (.tuple (b.map encInts)) = true := by
  rw [PySem.W.alike]
  exact alike_all alike_encInts a b
theorem alike_encPour (p q : Pour) : PySem.W.alike (encPour p) (encPour q) = true := by
  unfold encPour
  rw [PySem.W.alike, PySem.W.alikeAll, alike_encInts, PySem.W.alikeAll, alike_parts]
  simp [PySem.W.alikeAll]
theorem alike_encRP (x y : Int × Pour) : PySem.W.alike (encRP x) (encRP y) = true := by
  unfold encRP
  rw [PySem.W.alike, PySem.W.alikeAll, alike_int, PySem.W.alikeAll, alike_encPour]
  simp [PySem.W.alikeAll]
theorem eqv_encRP (x y : Int × Pour) : PyData.eqv (encRP x) (encRP y) = decide (x = y) := by
  unfold encRP
  rw [PyData.eqv, PyData.eqvAll, PyData.eqvAll, PyData.eqvAll, PyData.eqv, eqv_encPour]
  obtain ⟨a, b⟩ := x
  obtain ⟨c, d⟩ := y
  by_cases h1 : a = c
  · by_cases h2 : b = d
    · simp [h1, h2]
    · simp [h1, h2]
  · simp [h1]
theorem toks_inj {x y : Int × Pour} (h : PySem.W.keyToks (encRP x) = PySem.W.keyToks (encRP y)) : x = y := by
  have t := PySem.W.toks_eqv (encRP x) (encRP y) (alike_encRP x y)
  cases e : PyData.eqv (encRP x) (encRP y) with
  | true =>
    rw [eqv_encRP] at e
    exact of_decide_eq_true e
  | false =>
    have a := t.2 e [.inl 0] [.inl 1]
    rw [h, PySem.W.lex_pre] at a
    have b : PyProof.Rows.lexLt itemOrd [.inl 0] [.inl 1] = true := by decide
    have c : PyProof.Rows.lexLt itemOrd (PySem.W.keyToks (encRP y)) (PySem.W.keyToks (encRP y)) = false := lex_irrefl _
    rw [b, c] at a
    cases a
theorem leRP_good : GoodLe leRP where
  trans := fun a b c h1 h2 => (PySem.W.sortLe_total (listOrd itemOrd) false fun b => PySem.W.keyToks (encRP b)).trans a b c h1 h2
  total := fun a b => (PySem.W.sortLe_total (listOrd itemOrd) false fun b => PySem.W.keyToks (encRP b)).total a b
  anti := fun a b h1 h2 => by
    have e1 : (!PyProof.Rows.lexLt itemOrd (PySem.W.keyToks (encRP b)) (PySem.W.keyToks (encRP a))) = true := h1
    have e2 : (!PyProof.Rows.lexLt itemOrd (PySem.W.keyToks (encRP a)) (PySem.W.keyToks (encRP b))) = true := h2
    rw [Bool.not_eq_true'] at e1 e2
    exact toks_inj (lex_total _ _ e2 e1)
  first := fun a b h => by
    have e : (!PySem.W.dataLt (encRP b) (encRP a)) = false := h
    rw [Bool.not_eq_false'] at e
    unfold encRP at e
    rw [PySem.W.dataLt_pair (alike_int _ _) (alike_encPour _ _)] at e
    split at e
    · rename_i he
      have : b.1 = a.1 := by simpa [PyData.eqv] using he
      omega
    · rw [PySem.W.dataLt_int] at e
      have := of_decide_eq_true e
      omega
theorem depth_encRP (x : Int × Pour) : (encRP x).depth ≤ 4 := by
  have h := depth_encPour x.2
  unfold encRP
  simp only [PyData.depth, PyData.depthAll] at h ⊢
  omega
/-! ## data without lists: no address is read off that may change -/
section
variable {X : Cx} {pins : List (Addr × Obj)} {σ : L2.St} {H : Hp} {s : Shared}
theorem reads_all {β : Type} {h : Heap} {R : V → β → Prop} {ef : β → PyData} (hR : ∀ v b u, R v b → RelV v u → Reads h u (ef b) []) : ∀ {vs : List V} {bs : List β} {us : List Value}, Paired R vs bs → Vals vs us → ReadsAll h us (bs.map ef) []
  | _, _, _, .nil, .nil => .nil
  | _, _, _, .cons a t, .cons b u => .cons (as := []) (bs := []) (hR _ _ _ a b) (reads_all hR t u)
theorem reads_nums {h : Heap} : ∀ {ns : List Int} {us : List Value}, Vals (ns.map V.int) us → ReadsAll h us (ns.map .int) []
  | [], _, .nil => .nil
  | n :: ns, _, .cons b u => by
    obtain ⟨t, rfl⟩ := b
    exact .cons (as := []) (bs := []) (.int n t) (reads_nums u)
theorem tup_reads (I : Inv X pins σ H s) {a : Addr} {xs : List V} {ds : List PyData} (h : H a = some (.tup xs)) (hk : ∀ us, Vals xs us → ReadsAll s.heap us ds []) : Reads s.heap (.ref a) (.tuple ds) [] := by
  obtain ⟨its, rv, ⟨o, ho, hc, n, hd⟩, _⟩ := I.tuple (SqT.of h)
  exact .tuple ho hc hd (by simpa using hk _ rv)
theorem IntsT.reads (I : Inv X pins σ H s) {v : V} {ns : List Int} {u : Value} (h : IntsT H v ns) (r : RelV v u) : Reads s.heap u (encInts ns) [] := by
  obtain ⟨a, rfl, q⟩ := h
  cases r
  exact tup_reads I q fun us rv => reads_nums rv
theorem PartsT.reads (I : Inv X pins σ H s) {v : V} {ps : List (List Int)} {u : Value} (h : PartsT H v ps) (r : RelV v u) : Reads s.heap u (.tuple (ps.map encInts)) [] := by
  obtain ⟨a, vs, rfl, q, t⟩ := h
  cases r
  exact tup_reads I q fun us rv => reads_all (fun v b u z ru => IntsT.reads I z ru) t rv
theorem PourT.reads (I : Inv X pins σ H s) {v : V} {p : Pour} {u : Value} (h : PourT H v p) (r : RelV v u) : Reads s.heap u (encPour p) [] := by
  obtain ⟨a, x, y, rfl, q, r1, r2⟩ := h
  cases r
  refine tup_reads I q fun us rv => ?_
  cases rv with
  | cons b t =>
    cases t with
    | cons b' t' =>
      cases t'
      exact .cons (as := []) (bs := []) (r1.reads I b) (.cons (as := []) (bs := []) (r2.reads I b') .nil)
end
/-! ## [*zip(a, b), ..] and sorted(zip(a, b)) -/
section
variable {X : Cx}
def tStarZip (K : PySem.W.Frag) (ta t : TA) : TA := fun σ H Q => ta σ H fun vs H1 => ∃ (a b : Addr) (xs ys : List V), vs = [.ref a, .ref b] ∧ Src K H1 a xs ∧ Src K H1 b ys ∧ xs.length = ys.length ∧
  ∀ (H2 : Hp) (Ts : List Addr), Same H1 H2 → Paired (fun (T : Addr) (p : V × V) => H1 T = none ∧ H2 T = some (.tup [p.1, p.2])) Ts (xs.zip ys) → t σ H2 fun ws H3 => Q (Ts.map V.ref ++ ws) H3
theorem vals_refs : ∀ Ts : List Addr, Vals (Ts.map V.ref) (Ts.map Value.ref)
  | [] => .nil
  | T :: Ts => .cons rfl (vals_refs Ts)
theorem pa_starZip {e1 e2 : Expr} {es : List Expr} {ta t : TA} {p p1 p2 : Pos} (hc : X.calm = true) (hg : Gl X "zip") (hm : X.mg "zip" = none) (ha : PA X [e1, e2] ta) (hr : PA X es t)
    (hs : starEach (.Starred (.Call (.Name "zip" p1) [e1, e2] [] p2) p :: es) X.env = (true, eval (.Call (.Name "zip" p1) [e1, e2] [] p2) X.env) :: starEach es X.env := by rfl)
    (hs2 : starEach [e1, e2] X.env = (false, eval e1 X.env) :: starEach [e2] X.env := by rfl) (hpl : (backTo p2 (starEach [e2] X.env)).any (·.1) = false := by rfl) :
    PA X (.Starred (.Call (.Name "zip" p1) [e1, e2] [] p2) p :: es) (tStarZip X.K ta t) := by
  refine ⟨fun pos pins s σ H Q I h => ?_⟩
  refine PySem.W.items_star (Call_ (ld_blt I hg hm PyProof.Rows.boot_zip (PyProof.Rows.callWith_type1 (thn (ha.run p2 pins s σ H _ I h) fun us s1 ⟨vs, H1, I1, r1, q1⟩ => ?_) hs2 hpl))) hs
  obtain ⟨a, b, xs, ys, ex, hqa, hqb, hl, q⟩ := q1
  subst ex
  cases r1 with
  | cons ra rr =>
    cases rr with
    | cons rb rr =>
      cases rr
      cases ra
      cases rb
      refine zip_raw (G := fun us s2 => wpAny (model X.prog X.w) X.A (spliced (backTo pos (starEach es X.env))) (fun vs s3 => AP X pins σ Q (us ++ vs) s3) X.xe s2)
        (Q := fun v G s2 => PySem.W.StarOf (model X.prog X.w) X.A X.xe v G s2) I1 hc hqa hqb hl (I1.ok.hd hc) (fun v s2 hT hcol => ?_) fun us1 us2 Ts h' tk r1 r2 hTl hk hp => ?_
      · unfold PySem.W.StarOf notIterableAtAll
        exact wpAny_bind (wpAny_specialOf hT F.slot_zip_iter.lookup (wpAny_pure ⟨rfl, hcol X.A _ X.xe (I1.ok.hd hc) fun us s3 g => g⟩))
      · obtain ⟨w1, w2⟩ := pairs_at r1 r2 hTl hl hp
        have hN : ∀ b o, pairN Ts (xs.zip ys) b = some o → s1.heap.get? b = none := fun b o e => by
          obtain ⟨j, p, z1, _, _⟩ := pairN_some e
          exact get_ge (hp j b z1).1
        have J : Inv X pins σ (over H1 (pairN Ts (xs.zip ys))) { s1 with heap := h', toks := tk } := inv_many I1 _ hN hk fun b o e => by
          obtain ⟨x, y, its, rfl, rv, it⟩ := w2 b o e
          exact ⟨by show 2 ≤ sizeLine; decide, its, rv, it⟩
        have q2 := q _ Ts (over_same I1 hN) (L2.Paired.mapP w1 fun T p z => ⟨I1.hok.fresh z.1, over_some z.2⟩)
        exact thn (hr.run pos pins _ σ _ _ J q2) fun ws s3 ⟨vs3, H3, I3, r3, q3⟩ => ⟨_, H3, I3, (vals_refs Ts).append r3, q3⟩
def tSortZip (K : PySem.W.Frag) (ta : TA) : TE := fun σ H Q => ta σ H fun vs H1 => ∃ (a b : Addr) (rs : List Int) (ys : List V) (row : Row), vs = [.ref a, .ref b] ∧ Src K H1 a (rs.map V.int) ∧ Src K H1 b ys ∧ Paired (PourT H1) ys row ∧ rs.length = row.length ∧
  ∀ (H2 : Hp) (L : Addr) (Ts : List Addr), Same H1 H2 → H1 L = none → H2 L = some (.lst (Ts.map V.ref)) → Paired (fun (T : Addr) (b : Int × Pour) => ∃ y, H1 T = none ∧ H2 T = some (.tup [.int b.1, y]) ∧ PourT H2 y b.2) Ts ((rs.zip row).mergeSort leRP) → Q (.ref L) H2
theorem each_of_get {α β : Type} {R : α → β → Prop} : ∀ {as : List α} {bs : List β}, as.length = bs.length → (∀ (j : Nat) (a : α) (b : β), as[j]? = some a → bs[j]? = some b → R a b) → EachIs R as bs
  | [], [], _, _ => .nil
  | [], _ :: _, h, _ => by cases h
  | _ :: _, [], h, _ => by cases h
  | a :: as, b :: bs, hl, h => .cons (h 0 a b rfl rfl) (each_of_get (by simpa using hl) fun j x y h1 h2 => h (j + 1) x y (by simpa using h1) (by simpa using h2))
theorem paired_get {α β : Type} {R : α → β → Prop} : ∀ {as : List α} {bs : List β} {j : Nat} {a : α} {b : β}, Paired R as bs → as[j]? = some a → bs[j]? = some b → R a b
  | _, _, _, _, _, .nil, h, _ => by simp at h
  | _, _, 0, _, _, .cons r _, h, h2 => by
    simp at h h2
    subst h
    subst h2
    exact r
  | _, _, j + 1, _, _, .cons _ t, h, h2 => paired_get (j := j) t (by simpa using h) (by simpa using h2)
theorem paired_len {α β : Type} {R : α → β → Prop} {as : List α} {bs : List β} (h : Paired R as bs) : as.length = bs.length := Paired.length h
theorem each_refs {R : Addr → Int × Pour → Prop} : ∀ {out : List Value} {bs : List (Int × Pour)}, EachIs (fun v b => ∃ T : Addr, v = .ref T ∧ R T b) out bs → ∃ Ts : List Addr, out = Ts.map Value.ref ∧ Paired R Ts bs
  | _, _, .nil => ⟨[], rfl, .nil⟩
  | _, _, .cons a t => by
    obtain ⟨T, rfl, h⟩ := a
    obtain ⟨Ts, rfl, p⟩ := each_refs t
    exact ⟨T :: Ts, rfl, .cons h p⟩
theorem pe_sortZip {e1 e2 : Expr} {ta : TA} {p p1 p2 pos : Pos} (hc : X.calm = true) (hu : X.A.units + 64 < cLine) (hg : Gl X "zip") (hm : X.mg "zip" = none) (hg2 : Gl X "sorted") (hm2 : X.mg "sorted" = none) (ha : PA X [e1, e2] ta)
    (hs : starEach [.Call (.Name "zip" p1) [e1, e2] [] p2] X.env = [(false, eval (.Call (.Name "zip" p1) [e1, e2] [] p2) X.env)] := by rfl)
    (hs2 : starEach [e1, e2] X.env = (false, eval e1 X.env) :: starEach [e2] X.env := by rfl) (hpl : (backTo p2 (starEach [e2] X.env)).any (·.1) = false := by rfl) :
    PE X (.Call (.Name "sorted" p) [.Call (.Name "zip" p1) [e1, e2] [] p2] [] pos) (tSortZip X.K ta) := by
  refine ⟨fun pins s σ H Q I h => ?_⟩
  refine wpAny_Call_Name_kw (ld_blt I hg2 hm2 PyProof.Rows.boot_sorted ?_)
  refine PyProof.Rows.callWith_builtin1 ?_ hs rfl
  rw [hs]
  show wpAny _ _ (spliced ((false, eval (.Call (.Name "zip" p1) [e1, e2] [] p2) X.env) :: backTo pos [])) _ _ s
  refine Calls.spliced_cons (Call_ (ld_blt I hg hm PyProof.Rows.boot_zip (PyProof.Rows.callWith_type1 (thn (ha.run p2 pins s σ H _ I h) fun us s1 ⟨vs, H1, I1, r1, q1⟩ => ?_) hs2 hpl)))
  obtain ⟨a, b, rs, ys, row, ex, hqa, hqb, hpr, hl, q⟩ := q1
  subst ex
  have hly := Paired.length hpr
  cases r1 with
  | cons ra rr =>
    cases rr with
    | cons rb rr =>
      cases rr
      cases ra
      cases rb
      have hl' : (rs.map V.int).length = ys.length := by rw [List.length_map]; omega
      have hzl : ((rs.map V.int).zip ys).length = row.length := by rw [List.length_zip, List.length_map]; omega
      refine zip_raw (G := fun us s2 => ∀ B : Around, B.handled = none → B.units = X.A.units + 1 → wpAny (model X.prog X.w) B (newList us >>= fun l => holding [l] (call (.builtin "list.sort") [l]) >>= fun _ => ret l) (fun fin s' => ∃ v, fin = .done (.ret v) ∧ EP X pins σ Q v s') X.xe s2)
        (Q := fun v G s2 => wpAny (model X.prog X.w) X.A (spliced (backTo pos [])) (fun vs s3 => wpAny (model X.prog X.w) X.A (call (.builtin "sorted") (v :: vs)) (EP X pins σ Q) X.xe s3) X.xe s2) I1 hc hqa hqb hl' (I1.ok.hd hc) (fun v s2 hT hcol => ?_) fun us1 us2 Ts h' tk r1 r2 hTl hk hp B hB hBu => ?_
      · refine Calls.spliced_nil ?_
        refine Calls.call_function_entry PyProof.Rows.kind_sorted PyProof.Rows.plain_sorted PyProof.Rows.entry_sorted (PyProof.Rows.args_sorted1 _) ?_
        unfold Builtin.«sorted»
        refine wpAny_bind (m := checkCount "sorted" 1 1 _) (wpAny_pure ?_)
        refine wpAny_bind (hcol X.A.in1 _ X.xe (I1.ok.hd hc) fun us s3 g => ?_)
        exact g X.A.in1 (I1.ok.hd hc) rfl
      · obtain ⟨w1, w2⟩ := pairs_at r1 r2 hTl hl' hp
        have hTl2 : Ts.length = row.length := by rw [hTl, List.length_map]; exact hl
        have zlen : (rs.zip row).length = row.length := by rw [List.length_zip, hl, Nat.min_self]
        have hsz2 : row.length ≤ sizeLine := by
          rcases hqb with g | g
          · obtain ⟨_, _, _, z⟩ := I1.list g
            omega
          · obtain ⟨_, _, _, z⟩ := I1.tuple g
            omega
        -- the items and what they stand for
        refine wpAny_bind (wpAny_newList ?_ (by rw [List.length_map, hTl2]; exact hsz2))
        have hLn : (h'.push { cls := .type "list", data := .seq (Ts.map Value.ref).toArray }).get? h'.objs.size = some { cls := .type "list", data := .seq (Ts.map Value.ref).toArray } := Heap.get?_push_size _ rfl
        have hk2 : ∀ c o, s1.heap.get? c = some o → (h'.push { cls := .type "list", data := .seq (Ts.map Value.ref).toArray }).get? c = some o := fun c o e => Heap.get?_push_of_some _ (hk c o e)
        have J0 : Inv X pins σ H1 { s1 with heap := h'.push { cls := .type "list", data := .seq (Ts.map Value.ref).toArray }, toks := tk } := I1.kept hk2
        have raw : ∀ (j : Nat) (T : Addr) (x : Int × Pour), Ts[j]? = some T → (rs.zip row)[j]? = some x → s1.heap.objs.size ≤ T ∧ T < h'.objs.size ∧ ∃ y u1 u2, ys[j]? = some y ∧ PourT H1 y x.2 ∧ RelV (.int x.1) u1 ∧ RelV y u2 ∧ IsTupOf2 h' T u1 u2 := fun j T x h1 h2 => by
          obtain ⟨hz, u1, u2, g1, g2, g3⟩ := hp j T h1
          obtain ⟨e1, e2⟩ := List.getElem?_zip_eq_some.mp h2
          have hj : j < ys.length := by
            have := (List.getElem?_eq_some_iff.mp e2).1
            omega
          have ey : ys[j]? = some ys[j] := List.getElem?_eq_getElem hj
          obtain ⟨x', ex', rx'⟩ := vals_get_back r1 g1
          obtain ⟨y', ey', ry'⟩ := vals_get_back r2 g2
          rw [List.getElem?_map, e1] at ex'
          cases ex'
          rw [ey] at ey'
          cases ey'
          exact ⟨hz, Heap.lt_size g3, ys[j], u1, u2, ey, paired_get hpr ey e2, rx', ry', g3⟩
        let Rr : Addr → Int × Pour → Prop := fun T b => ∃ (j : Nat) (y : V), Ts[j]? = some T ∧ (rs.zip row)[j]? = some b ∧ ys[j]? = some y ∧ PourT H1 y b.2
        have hEach : EachIs (fun v (b : Int × Pour) => ∃ T : Addr, v = .ref T ∧ Rr T b) (Ts.map Value.ref) (rs.zip row) := each_of_get (by rw [List.length_map, hTl2, zlen]) fun j v x h1 h2 => by
          rw [List.getElem?_map] at h1
          cases hT : Ts[j]? with
          | none => rw [hT] at h1; cases h1
          | some T =>
            rw [hT] at h1
            cases h1
            obtain ⟨_, _, y, _, _, ey, py, _⟩ := raw j T x hT h2
            exact ⟨T, rfl, j, y, hT, h2, ey, py⟩
        have hRead : EachIs (fun v (b : Int × Pour) => ∃ as, Reads (h'.push { cls := .type "list", data := .seq (Ts.map Value.ref).toArray }) v (encRP b) as ∧ h'.objs.size ∉ as) (Ts.map Value.ref) (rs.zip row) := each_of_get (by rw [List.length_map, hTl2, zlen]) fun j v x h1 h2 => by
          rw [List.getElem?_map] at h1
          cases hT : Ts[j]? with
          | none => rw [hT] at h1; cases h1
          | some T =>
            rw [hT] at h1
            cases h1
            obtain ⟨_, _, y, u1, u2, ey, py, ru1, ru2, tt⟩ := raw j T x hT h2
            obtain ⟨t1, rfl⟩ := ru1
            refine ⟨[], .tuple (Heap.get?_push_of_some _ tt) rfl rfl ?_, by simp⟩
            exact .cons (as := []) (bs := []) (.int _ _) (.cons (as := []) (bs := []) (py.reads J0 ru2) .nil)
        have e0 : (seqObj "list" (Ts.map Value.ref).toArray 0 : Obj) = { cls := .type "list", data := .seq (Ts.map Value.ref).toArray } := rfl
        refine wpAny_bind (wpAny_holding (PySem.W.list_sort_data (n := 0) hLn hEach hRead (PySem.W.AllAlike.of alike_encRP) (PySem.W.Sortable.tuples fun b => ⟨_, _, rfl⟩) (by rw [zlen]; exact hsz2) (fun b _ => by have := depth_encRP b; rw [hBu]; omega) fun out hol he => ?_))
        refine wpAny_pure ⟨_, rfl, ?_⟩
        obtain ⟨Ts2, rfl, hTs2⟩ := each_refs he
        obtain ⟨ep, hep⟩ := sortedHeap_at (out := (Ts2.map Value.ref).toArray) (a := h'.objs.size) (h := h'.push { cls := .type "list", data := .seq (Ts.map Value.ref).toArray }) (vs := Ts.map Value.ref) (n := 0) hLn
        have hk3 : ∀ c o, c ≠ h'.objs.size → (h'.push { cls := .type "list", data := .seq (Ts.map Value.ref).toArray }).get? c = some o → (sortedHeap (h'.push { cls := .type "list", data := .seq (Ts.map Value.ref).toArray }) h'.objs.size (Ts.map Value.ref) (Ts2.map Value.ref).toArray).get? c = some o := fun c o hne e => (sortedHeap_old hne (Heap.lt_size e)).trans e
        have hk4 : ∀ c o, s1.heap.get? c = some o → (sortedHeap (h'.push { cls := .type "list", data := .seq (Ts.map Value.ref).toArray }) h'.objs.size (Ts.map Value.ref) (Ts2.map Value.ref).toArray).get? c = some o := fun c o e => hk3 c o (Nat.ne_of_lt (Heap.lt_size (hk c o e))) (hk2 c o e)
        have hTs2l : Ts2.length ≤ sizeLine := by
          have := Paired.length hTs2
          rw [List.length_mergeSort, zlen] at this
          omega
        have hN : ∀ b o, upd (pairN Ts ((rs.map V.int).zip ys)) h'.objs.size (.lst (Ts2.map V.ref)) b = some o → s1.heap.get? b = none := fun b o e => by
          by_cases hb : b = h'.objs.size
          · subst hb
            cases g : s1.heap.get? h'.objs.size with
            | none => rfl
            | some u => exact absurd (Heap.lt_size (hk _ _ g)) (Nat.lt_irrefl _)
          · rw [upd_ne hb] at e
            obtain ⟨j, p, z1, _, _⟩ := pairN_some e
            exact get_ge (hp j b z1).1
        have J : Inv X pins σ (over H1 (upd (pairN Ts ((rs.map V.int).zip ys)) h'.objs.size (.lst (Ts2.map V.ref)))) { s1 with heap := sortedHeap (h'.push { cls := .type "list", data := .seq (Ts.map Value.ref).toArray }) h'.objs.size (Ts.map Value.ref) (Ts2.map Value.ref).toArray, toks := tk } := inv_many I1 _ hN hk4 fun b o e => by
          by_cases hb : b = h'.objs.size
          · subst hb
            rw [upd_same] at e
            cases e
            exact ⟨by rw [List.length_map]; exact hTs2l, Ts2.map Value.ref, ep, vals_refs Ts2, hep⟩
          · rw [upd_ne hb] at e
            obtain ⟨x, y, its, rfl, rv, ob, ho, hcl, n, hd⟩ := w2 b o e
            exact ⟨by show 2 ≤ sizeLine; decide, its, rv, ob, hk3 b ob hb (Heap.get?_push_of_some _ ho), hcl, n, hd⟩
        have sm := over_same I1 hN
        refine ⟨.ref h'.objs.size, _, J, rfl, q _ h'.objs.size Ts2 sm (none_of_get I1 (hN _ _ upd_same)) (over_some upd_same) (L2.Paired.mapP hTs2 fun T x z => ?_)⟩
        obtain ⟨j, y, z1, z2, z3, z4⟩ := z
        obtain ⟨g1, g2, _⟩ := raw j T x z1 z2
        have z5 := (paired_get w1 z1 (b := (V.int x.1, y)) (by
          rw [List.getElem?_zip_eq_some, List.getElem?_map, (List.getElem?_zip_eq_some.mp z2).1]
          exact ⟨rfl, z3⟩)).2
        exact ⟨y, I1.hok.fresh g1, over_some (by rw [upd_ne (Nat.ne_of_lt g2)]; exact z5), z4.te (TE2.of sm)⟩
end
end K66
namespace K66
open PySem PySem.Spec PyProof.Rows L2
open Sem (wp)
/-! ## enumerate(tuple) -/
/-- the tuple at a, each item in a new pair with its index -/
def IteT (K : PySem.W.Frag) (a : Addr) : It :=
  ⟨fun i H => ∃ (xs : List V) (x : V), SqT K H a xs ∧ xs[i]? = some x, fun i H v H' => ∃ T x, v = .ref T ∧ H T = none ∧ H' = upd H T (.tup [.int (i : Nat), x]) ∧ ∀ xs, SqT K H a xs → xs[i]? = some x, fun i H => ∃ xs : List V, SqT K H a xs ∧ xs.length ≤ i⟩
theorem turn_enumT {P : Program} {w : World} {K : PySem.W.Frag} {elts : List Expr} {kk : Nat} {tpos : Pos} (a e it : Addr) (hei : e ≠ it) (hae : a ≠ e) (hai : a ≠ it) :
    Turn P w K (.Tuple elts kk tpos) (IteT K a) [e, it] e (fun i h => (∃ old, IsEnum h e it ((i : Nat) : Int) old) ∧ h.IsTupleIter it a i) where
  mem := by simp
  obj := fun i h st b hb => by
    obtain ⟨⟨old, he⟩, ⟨o, ho, hc, hd⟩⟩ := st
    have e' : b = e ∨ b = it := by simpa using hb
    rcases e' with z | z
    · rw [z]; exact ⟨_, he, fun v q => nomatch q⟩
    · rw [z]; exact ⟨o, ho, fun v q => by rw [hd] at q; cases q⟩
  keep := fun i h h' st k => let ⟨⟨old, he⟩, hi⟩ := st; ⟨⟨old, k e (by simp) _ he⟩, hi.at fun o q => k it (by simp) o q⟩
  item := by
    intro X hP hw hK hc i pins s σ H E I hf st hg
    subst hP hw hK
    obtain ⟨⟨old, he⟩, hit⟩ := st
    obtain ⟨xs, x, hq, hx⟩ := hg
    obtain ⟨its, rv, pl, hz⟩ := I.tuple hq
    obtain ⟨u, hu, ru⟩ := rv.get hx
    obtain ⟨o, ho, hcl, n, hd⟩ := id pl
    have pl' : s.heap.IsTuple a its.toArray := ⟨o, ho, hcl, n, hd⟩
    have hel : e < s.heap.objs.size := Heap.lt_size he
    have hil : it < s.heap.objs.size := by obtain ⟨_, q, _⟩ := hit; exact Heap.lt_size q
    have hlt : i < its.toArray.size := by
      have := (List.getElem?_eq_some_iff.mp hu).1
      simpa using this
    have hea : e ∉ [it, a] := by
      simp only [List.mem_cons, List.not_mem_nil, or_false, not_or]
      exact ⟨hei, hae.symm⟩
    refine wpAny_pyNext_enum_itemC (Draws.tuple (prog := X.prog) (w := X.w) (A := X.A.in1) (I.ok.hd hc) it a hai its.toArray) he ⟨hit, pl'⟩ hlt hei hea fun x' h' tk hx' ho' st' hT hsz hk => ?_
    have hxe : x' = u := by
      have h2 : its.toArray[i]? = some u := by simpa using hu
      rw [h2] at hx'
      exact (Option.some.inj hx').symm
    subst hxe
    refine ⟨_, rfl, wpAny_letOwnedTupleGo_enum (s := { s with heap := h', toks := tk + 1 }) ho' fun h'' he' sb => ?_⟩
    have hT2 : h''.get? s.heap.objs.size = some { cls := .type "tuple", data := .seq #[.int i tk, x'] } := (sb.2 _ (Nat.ne_of_gt hel)).trans hT
    have new : ObjOk X.prog X.w (upd H s.heap.objs.size (.tup [.int (i : Nat), x])) h'' s.heap.objs.size (.tup [.int (i : Nat), x]) :=
      ⟨by show 2 ≤ sizeLine; decide, [.int i tk, x'], .cons ⟨_, rfl⟩ (.cons ru .nil), ⟨_, hT2, rfl, _, rfl⟩⟩
    have I1 : Inv X pins σ (upd H s.heap.objs.size (.tup [.int (i : Nat), x])) { s with heap := h'', toks := tk + 1 } :=
      I.turnedNew (ch := [e, it]) (fun b ob hb q => (sb.2 b (fun z => hb (by simp [z]))).trans (hk b ob (fun z => hb (by simp [z])) (fun z => hb (by simp [z])) q)) hf (Nat.le_refl _) new
    refine ⟨.ref s.heap.objs.size, _, I1, rfl, ⟨_, x, rfl, I.hok.fresh (Nat.le_refl _), rfl, fun ys hy => by rw [I.tuple_inj hy hq]; exact hx⟩, ⟨⟨x', ?_⟩, st'.1.at fun o q => (sb.2 it (Ne.symm hei)).trans q⟩, fun b hb => ?_⟩
    · have e1 : ((i + 1 : Nat) : Int) = (i : Int) + 1 := by omega
      rw [e1]; exact he'
    · have hb' : b < s.heap.objs.size := by
        have e' : b = e ∨ b = it := by simpa using hb
        rcases e' with z | z
        · rw [z]; exact hel
        · rw [z]; exact hil
      rw [upd_ne (Nat.ne_of_lt hb')]
      exact (hf b hb).1
  done := by
    intro X hP hw hK hc i pins s σ H E I hf st hg
    subst hP hw hK
    obtain ⟨⟨old, he⟩, hit⟩ := st
    obtain ⟨xs, hq, hx⟩ := hg
    obtain ⟨its, rv, pl, hz⟩ := I.tuple hq
    obtain ⟨o, ho, hcl, n, hd⟩ := id pl
    have pl' : s.heap.IsTuple a its.toArray := ⟨o, ho, hcl, n, hd⟩
    obtain ⟨f0, f1, f2, f3, f4, f5⟩ := hf it (by simp)
    have hl := rv.length
    have D0 := Draws.tuple (prog := X.prog) (w := X.w) (A := X.A.in1) (I.ok.hd hc) it a hai its.toArray
    have D : Draws X.prog X.w X.A.in1 it [it, a] i (fun _ _ => False) (fun j h => j = i ∧ h.IsTupleIter it a i ∧ h.IsTuple a its.toArray) :=
      ⟨fun j h st => D0.live i h st.2, fun j h h' st k => ⟨st.1, D0.frame i h h' st.2 k⟩, fun j s Q E hj st _ => absurd hj (by rw [st.1]; exact Nat.lt_irrefl _),
        fun s Q E st hE => wpAny_nextOf_tuple_end (I.ok.hd hc) st.2.1 st.2.2 (by simp; omega) hE⟩
    exact wpAny_pyNext_enum_endD D he ⟨rfl, hit, pl'⟩ fun h' eb => ⟨rfl, I.turned (t' := s.toks) (fun b o hb q => eb b o hb q) f0 f1 f3 f4 f5⟩
  self := fun A i s Q E st h => let ⟨⟨_, he⟩, _⟩ := st; wpAny_pyIter_enum he h
theorem meets_enumT (l : Addr) (items : Array Value) (H : Heap → Prop) (hH : ∀ h, H h → h.IsTuple l items) :
    Meets (Builtin.«enumerate.__new__» ⟨[.type "enumerate", .ref l], []⟩) (fun _ R s => H s.heap ∧
      R (.ok (.ret (.ref (s.heap.push { cls := .type "tuple_iterator", data := .fields #[.ref l, .int 0 0] }).objs.size)))
        { s with heap := (s.heap.push { cls := .type "tuple_iterator", data := .fields #[.ref l, .int 0 0] }).push { cls := .type "enumerate", data := .fields #[.none, .bool false, .ref s.heap.objs.size, rawInt 0, .none, .none] } }) :=
  .of_wp fun prog w A R s h => by
    obtain ⟨hp, g, d, tk, os⟩ := s
    obtain ⟨hl, h⟩ := h
    have hsub := sub_enumerate
    have hL : Heap.IsTuple (Shared.heap ⟨hp, g, d, tk, os⟩) l items := hH _ hl
    have q1 : ∀ {A' : Around} {E : Value → Shared → Prop} {Q : Value → Shared → Prop}, Q (.ref hp.objs.size) ⟨hp.push { cls := .type "tuple_iterator", data := .fields #[.ref l, .int 0 0] }, g, d, tk, os⟩ → wpAny (model prog w) A' (pyIter (.ref l)) Q E ⟨hp, g, d, tk, os⟩ :=
      fun q => wpAny_pyIter_tuple hL q
    wp_walk using q1
    refine wpAny_stack_any fun st => wpAny_pure ?_
    split
    · rename_i c _ _ _ _ _
      cases (c == Value.type "enumerate")
      · wp_walk using q1
        exact ⟨_, rfl, h⟩
      · wp_walk using q1
        exact ⟨_, rfl, h⟩
    · wp_walk using q1
      exact ⟨_, rfl, h⟩
theorem call_enumT {prog : Program} {w : World} {A : Around} {E : Value → Shared → Prop} {s : Shared} {l : Addr} {items : Array Value} {Q : Value → Shared → Prop} (hL : s.heap.IsTuple l items)
    (h : ∀ h', IsEnum h' (s.heap.objs.size + 1) s.heap.objs.size 0 .none → h'.IsTupleIter s.heap.objs.size l 0 → h'.objs.size = s.heap.objs.size + 2 →
      (∀ b o, s.heap.get? b = some o → h'.get? b = some o) → Q (.ref (s.heap.objs.size + 1)) { s with heap := h' }) :
    wpAny (model prog w) A (call (.type "enumerate") [.ref l]) Q E s := by
  refine callType_new F.called_enumerate (by decide) (F.typeCall_enumerate_1 _) (F.newCall_enumerate_1 _) (fun obj => F.args_object_init_2 obj _) F.entry_enumerate_new
    (meets_enumT l items (fun h => h.IsTuple l items) fun _ x => x) ⟨hL, ?_⟩
  have hz : (s.heap.push { cls := .type "tuple_iterator", data := .fields #[.ref l, .int 0 0] }).objs.size = s.heap.objs.size + 1 := Heap.size_push ..
  show _ ∧ _
  rw [hz]
  have he : IsEnum ((s.heap.push { cls := .type "tuple_iterator", data := .fields #[.ref l, .int 0 0] }).push
      { cls := .type "enumerate", data := .fields #[.none, .bool false, .ref s.heap.objs.size, rawInt 0, .none, .none] }) (s.heap.objs.size + 1) s.heap.objs.size 0 .none := by
    have := Heap.get?_push_size (s.heap.push { cls := .type "tuple_iterator", data := .fields #[.ref l, .int 0 0] })
      (o := { cls := .type "enumerate", data := .fields #[.none, .bool false, .ref s.heap.objs.size, rawInt 0, .none, .none] }) rfl
    rw [hz] at this; exact this
  refine ⟨⟨_, he, rfl⟩, h _ he ⟨_, Heap.get?_push_of_some _ (Heap.get?_push_size _ rfl), rfl, rfl⟩ (by rw [Heap.size_push, hz]) fun b o x => Heap.get?_push_of_some _ (Heap.get?_push_of_some _ x)⟩
def iEnumT (K : PySem.W.Frag) (ta : TA) : TI := fun σ H R => ta σ H fun vs H1 => ∃ a xs, vs = [.ref a] ∧ SqT K H1 a xs ∧ R (IteT K a) H1
theorem pi_enumT {X : Cx} {e : Expr} {ta : TA} {p pos tpos : Pos} {elts : List Expr} {kk : Nat} (hg : Gl X "enumerate") (hm : X.mg "enumerate" = none) (ha : PA X [e] ta) (hs : starEach [e] X.env = [(false, eval e X.env)] := by rfl) :
    PI X (.Tuple elts kk tpos) (.Call (.Name "enumerate" p) [e] [] pos) (iEnumT X.K ta) := by
  refine ⟨fun pins s σ H R I h => ?_⟩
  refine Call_ (ld_blt I hg hm boot_enumerate (PyProof.Rows.callWith_type1 (thn (ha.run pos pins s σ H _ I h) fun us s1 ⟨vs, H1, I1, r1, q1⟩ => ?_) hs rfl))
  obtain ⟨a, xs, ex, hq, q⟩ := q1
  subst ex
  cases r1 with
  | cons r rr =>
    cases rr
    cases r
    obtain ⟨its, rv, pl, hz⟩ := I1.tuple hq
    obtain ⟨o, ho, hcl, n, hd⟩ := id pl
    have la : a < s1.heap.objs.size := Heap.lt_size ho
    refine call_enumT (items := its.toArray) ⟨o, ho, hcl, n, hd⟩ fun h' he hit hsz hk => wpAny_pyIter_enum he ?_
    have I2 : Inv X pins σ H1 { s1 with heap := h' } := I1.kept (t' := s1.toks) hk
    refine ⟨s1.heap.objs.size + 1, [s1.heap.objs.size + 1, s1.heap.objs.size], _, _, H1, rfl, I2, turn_enumT a (s1.heap.objs.size + 1) s1.heap.objs.size (Nat.succ_ne_self _) (Nat.ne_of_lt (Nat.lt_succ_of_lt la)) (Nat.ne_of_lt la), ⟨⟨.none, he⟩, hit⟩, fun b hb => ?_, q⟩
    have e' : b = s1.heap.objs.size + 1 ∨ b = s1.heap.objs.size := by simpa using hb
    have hle : s1.heap.objs.size ≤ b := by
      rcases e' with z | z
      · rw [z]; exact Nat.le_add_right _ _
      · rw [z]; exact Nat.le_refl _
    exact I1.fpOk hle (I1.hok.fresh hle)
/-- a loop over enumerate of a tuple -/
theorem for_enumT {K : PySem.W.Frag} {a : Addr} {xs : List V} {g : TG} {tb : TS} {D : Ends} {σ : L2.St} {H : Hp} (Pv : Nat → L2.St → Hp → Prop) (h0 : Pv 0 σ H) (hq : ∀ i σ H, Pv i σ H → SqT K H a xs)
    (hs : ∀ (i : Nat) (x : V) (T : Addr) (σ : L2.St) (H : Hp), xs[i]? = some x → Pv i σ H → H T = none → g (.ref T) σ (upd H T (.tup [.int (i : Nat), x])) fun σ2 H2 => tb { D with nx := Pv (i + 1), ct := Pv (i + 1), bk := D.nx } σ2 H2) (hd : ∀ σ H, Pv xs.length σ H → D.nx σ H) :
    ∃ W : Nat → Nat → L2.St → Hp → Prop, (∃ m, W 0 m σ H) ∧ ∀ i m σ H, W i m σ H →
      ((IteT K a).stop i H ∧ D.nx σ H) ∨ ((IteT K a).go i H ∧ ∃ N : L2.St → Hp → Prop, (∀ σ' H', N σ' H' → ∃ m', m' < m ∧ W (i + 1) m' σ' H') ∧ ∀ v H', (IteT K a).yld i H v H' → g v σ H' fun σ2 H2 => tb { D with nx := N, ct := N, bk := D.nx } σ2 H2) := by
  refine ⟨fun i m σ H => m = xs.length - i ∧ i ≤ xs.length ∧ Pv i σ H, ⟨xs.length, rfl, Nat.zero_le _, h0⟩, ?_⟩
  rintro i m σ H ⟨rfl, hi, p⟩
  have qx := hq i σ H p
  by_cases hlt : i < xs.length
  · have hx : xs[i]? = some xs[i] := List.getElem?_eq_getElem hlt
    refine .inr ⟨⟨xs, _, qx, hx⟩, Pv (i + 1), fun σ' H' p' => ⟨xs.length - (i + 1), by omega, rfl, hlt, p'⟩, fun v H' y => ?_⟩
    obtain ⟨T, x', rfl, hT, rfl, f1⟩ := y
    exact hs i x' T σ H (f1 xs qx) p hT
  · have e : i = xs.length := by omega
    subst e
    exact .inl ⟨⟨xs, qx, Nat.le_refl _⟩, hd σ H p⟩
end K66
namespace K66
open PySem PySem.Spec PyProof.Rows L2
open Sem (wp)
/-! ## set(list or tuple of ints), its length, its members -/
theorem setR_count {w : World} {h : Heap} {a : Addr} {ns : List Int} {n : Nat} (R : SetR w h a (fun j => decide (j ∈ ns)) n) : n = (uni ns).length := by
  obtain ⟨o, es, ep, t, ho, hx, hd, g, nd, hm, hb, hf, hn, _⟩ := R
  have hl : (es.toList.map keyOf).length = n := by rw [List.length_map, Array.length_toList]; exact hn
  have h1 := sub_len (m := uni ns) nd fun k hk => uni_mem.mpr (of_decide_eq_true ((hm k).mpr hk))
  have h2 := sub_len (m := es.toList.map keyOf) (asc_nodup (uni_asc ns)) fun k hk => (hm k).mp (decide_eq_true (uni_mem.mp hk))
  omega
section
variable {P : Program} {w : World} {A : Around} {E : Value → Shared → Prop} {s : Shared}
/-- what set.update's loop gives over a walk of the ints ns, from the empty set at a -/
theorem set_fill {a I : Addr} {fp wr : List Addr} {G : Array GenState → Array GenState → Prop} {Pv : Nat → Value → Prop} {St : Nat → Shared → Prop} {R : Result → Shared → Prop} (ns : List Int) (W : WalksS P w A.in1 I fp wr G ns.length Pv St) (ha : a ∉ fp) (hb : ns.length + 1 < scanBound)
    (hv : ∀ i v, Pv i v → ∃ k t, ns[i]? = some k ∧ v = .int k t) (st : St 0 s) (e : s.heap.get? a = some { cls := .type "set", dict := none, data := .set #[] 0 (.fresh 0 0 (!w.params.followText "set-order")) })
    (hR : ∀ s' c, Moved (a :: wr) G s s' → SetR w s'.heap a (fun j => decide (j ∈ ns)) c → R (.ok (.ret .none)) s') : codeAny (model P w) A (.builtin "set.update.loop" ⟨[.ref a, .ref I], []⟩) R s :=
  set_update_ints W a ha ns rfl hb hv (ns.length - 0) 0 s rfl (Nat.zero_le _) st ⟨0, Nat.le_refl 0, setR_new_at e⟩ fun s' c hm _ q => hR s' c hm q
set_option maxRecDepth 100000 in
set_option maxHeartbeats 3200000 in
theorem call_set_lst {l : Addr} {items : Array Value} (ns : List Int) {Q : Value → Shared → Prop} (hh : A.handled = none) (hl : s.heap.IsList l items) (hit : IntsAre items.toList ns) (hb : ns.length + 1 < scanBound)
    (h : ∀ (h' : Heap) (tk c : Nat), SetR w h' s.heap.objs.size (fun j => decide (j ∈ ns)) c → (∀ b o, s.heap.get? b = some o → h'.get? b = some o) → Q (.ref s.heap.objs.size) { s with heap := h', toks := tk }) :
    wpAny (model P w) A (call (.type "set") [.ref l]) Q E s := by
  have hsz : items.size = ns.length := by
    have := IntsAre.length hit
    rwa [Array.length_toList] at this
  obtain ⟨c0, tl, hmro⟩ := F.called_set.mro
  have hmade := F.called_set.made
  have hsub := F.called_set.sub
  refine wpAny_call (codeAny_of_tree ?_)
  show wpAny _ _ (callAny (.type "set") _) _ _ _
  refine wpAny_pure ⟨Code.quiet_builtin _ (by decide +kernel), codeAny_builtin F.entry_type_call ?_⟩
  rw [Around.under_plain (weight_type_call_type "set" [.ref l] []) rfl]
  have g1 := F.called_set.notType
  have g2 := F.called_set.canCreate
  have g3 := F.typeCall_set_1 (.ref l)
  repeat (any_goals (first | assumption | wp_step))
  refine codeAny_mono (code_set_led1 (.ref l) (E := E) (Q₁ := fun obj s₁ => obj = .ref s.heap.objs.size ∧ s₁ = { s with heap := s.heap.push { cls := .type "set", dict := none, data := .set #[] 0 (.fresh 0 0 (!w.params.followText "set-order")) } }) ⟨rfl, rfl⟩) fun r s₁ hr => ?_
  cases r with
  | error e => exact hr
  | ok fl =>
    cases fl with
    | ret obj =>
      obtain ⟨rfl, rfl⟩ := hr
      have hS : (s.heap.push { cls := .type "set", dict := none, data := .set #[] 0 (.fresh 0 0 (!w.params.followText "set-order")) }).get? s.heap.objs.size = some { cls := .type "set", dict := none, data := .set #[] 0 (.fresh 0 0 (!w.params.followText "set-order")) } := Heap.get?_push_size _ rfl
      have hT : Shared.TypeIs { s with heap := s.heap.push { cls := .type "set", dict := none, data := .set #[] 0 (.fresh 0 0 (!w.params.followText "set-order")) } } (.ref s.heap.objs.size) "set" := ⟨_, hS, rfl⟩
      have hli := F.called_set.init.lookup
      have hbi := F.called_set.init.bind (.ref s.heap.objs.size)
      repeat (any_goals (first | assumption | wp_step))
      refine codeAny_mono (codeAny_call_builtin (R := wants (fun r s₂ => r = .none ∧ ∃ h' tk c, s₂ = { s with heap := h', toks := tk } ∧ SetR w h' s.heap.objs.size (fun j => decide (j ∈ ns)) c ∧ (∀ b o, s.heap.get? b = some o → h'.get? b = some o)) E)
        F.called_set.init.plain F.entry_set_init (check_set_init_1 hT ?_)) fun r₂ s₂ hr₂ => ?_
      · obtain ⟨⟨ocls, odict, odata, oslots⟩, hol, hcl, nl, hdl⟩ := hl
        simp only at hcl hdl
        subst hcl; subst hdl
        have hol' : (s.heap.push { cls := .type "set", dict := none, data := .set #[] 0 (.fresh 0 0 (!w.params.followText "set-order")) }).get? l = some { cls := .type "list", dict := odict, data := .seq items nl, slots := oslots } := Heap.get?_push_of_some _ hol
        have f1 := F.sub_list_set
        have f2 := F.sub_list_frozenset
        have f3 : (Value.type "list" == Value.type "dict") = false := by decide
        have hl1 : (s.heap.push { cls := .type "set", dict := none, data := .set #[] 0 (.fresh 0 0 (!w.params.followText "set-order")) }).IsList l items := ⟨_, hol', rfl, nl, rfl⟩
        have hlS : l < s.heap.objs.size := Heap.lt_size hol
        have hz1 : (s.heap.push { cls := .type "set", dict := none, data := .set #[] 0 (.fresh 0 0 (!w.params.followText "set-order")) }).objs.size = s.heap.objs.size + 1 := Heap.size_push ..
        unfold Builtin.«set.__init__» noKeywords Builtin.Frozenset.updateFrom
        generalize hPI : pyIter = PI
        wp_walk
        subst hPI
        refine wpAny_pyIter_list hl1 ?_
        refine wpAny_bind (wpAny_runValue ?_)
        have hneI : l ≠ (s.heap.push { cls := .type "set", dict := none, data := .set #[] 0 (.fresh 0 0 (!w.params.followText "set-order")) }).objs.size := by
          rw [hz1]
          exact Nat.ne_of_lt (Nat.lt_succ_of_lt hlS)
        have W0 := (Walks.list (prog := P) (w := w) (A := A.in1.in1.in1) (by simp [hh]) (s.heap.push { cls := .type "set", dict := none, data := .set #[] 0 (.fresh 0 0 (!w.params.followText "set-order")) }).objs.size l hneI items).toS
        rw [hsz] at W0
        refine set_fill ns W0 (fun hm => ?_) hb (fun i v hv => ?_) ⟨⟨_, Heap.get?_push_size _ rfl, rfl, rfl⟩, hl1.push _⟩ (Heap.get?_push_of_some _ hS) fun s' c hm hS' => ?_
        · rw [hz1] at hm
          rcases List.mem_cons.mp hm with e | e
          · exact absurd e (Nat.ne_of_lt (Nat.lt_succ_self _))
          · exact absurd (List.mem_singleton.mp e) (Nat.ne_of_gt hlS)
        · have hi : i < ns.length := by rw [← hsz]; exact (Array.getElem?_eq_some_iff.mp hv).1
          obtain ⟨t, e⟩ := PyProof.Rows.IntsAre.int_at hit i v (by rw [Array.getElem?_toList]; exact hv)
          refine ⟨ns[i], t, List.getElem?_eq_getElem hi, ?_⟩
          rw [e, List.getD_eq_getElem?_getD, List.getElem?_eq_getElem hi]
          rfl
        · obtain ⟨h', g', d', tk', os'⟩ := s'
          have eg : g' = s.gens := hm.gens
          have ed : d' = s.drawn := hm.drawn
          have eo : os' = s.os := hm.os
          subst eg; subst ed; subst eo
          show wpAny _ _ _ _ _ _
          refine wpAny_pure ?_
          show wpAny _ _ (ret Value.none) _ _ _
          refine wpAny_pure ⟨rfl, h', tk', c, rfl, hS', fun b o e => ?_⟩
          have hb0 : b < s.heap.objs.size := Heap.lt_size e
          refine hm.heap b o ?_ (Heap.get?_push_of_some _ (Heap.get?_push_of_some _ e))
          simp only [List.mem_cons, List.not_mem_nil, or_false, not_or]
          exact ⟨Nat.ne_of_lt hb0, by rw [hz1]; exact Nat.ne_of_lt (Nat.lt_succ_of_lt hb0)⟩
      · cases r₂ with
        | error e => exact hr₂
        | ok fl₂ =>
          cases fl₂ with
          | ret r =>
            obtain ⟨rfl, h', tk, c', rfl, hS', hk'⟩ := hr₂
            repeat (any_goals (first | assumption | wp_step))
            exact h _ _ _ hS' hk'
          | _ => exact hr₂.elim
    | _ => exact hr.elim
end
section
variable {X : Cx}
/-- set(xs), xs a list or a tuple of ints -/
def rSetI (K : PySem.W.Frag) (w : World) : List V → Hp → VK → Prop := fun xs H Q => ∃ (l : Addr) (ns : List Int), xs = [V.ref l] ∧ Src K H l (ns.map V.int) ∧ ns.length < 1000 ∧ ∀ p : Addr, H p = none → Q (.ref p) (upd H p (SetO w p (fun j => decide (j ∈ ns)) (uni ns).length))
theorem small_scan {n : Nat} (h : n < 1000) : n + 1 < scanBound := Nat.lt_of_lt_of_le (Nat.succ_lt_succ h) (by decide)
theorem cr_setI (hc : X.calm = true) : CallR X (.type "set") (rSetI X.K X.w) := by
  intro pins s σ H xs us Q I r h
  obtain ⟨l, ns, rfl, hs, hl, q⟩ := h
  rw [Vals.ref1 r]
  have fin : ∀ (h' : Heap) (tk c : Nat), SetR X.w h' s.heap.objs.size (fun j => decide (j ∈ ns)) c → (∀ b o, s.heap.get? b = some o → h'.get? b = some o) → EP X pins σ Q (.ref s.heap.objs.size) { s with heap := h', toks := tk } := fun h' tk c R k => by
    have e := setR_count R
    subst e
    exact ⟨.ref s.heap.objs.size, _, I.laid k (Nat.le_refl _) (setO_new R), rfl, q _ (I.hok.fresh (Nat.le_refl _))⟩
  rcases hs with hs | hs
  · obtain ⟨its, rv, pl, hz⟩ := I.list hs
    exact call_set_lst ns (I.ok.hd hc) pl.isList (by simpa using rv.ints) (small_scan hl) fun h' tk c R k => fin h' tk c R k
  · obtain ⟨its, rv, ⟨o, ho, hcl, n, hd⟩, hz⟩ := I.tuple hs
    exact call_set_tupI ns (I.ok.hd hc) ⟨o, ho, hcl, n, hd⟩ (by simpa using rv.ints) (small_scan hl) fun h' tk c R _ k => fin h' tk c R k
/-- len of such a set -/
theorem cr_lenSet : CallR X (.builtin "len") (fun xs H Q => ∃ (a : Addr) (S : Int → Bool) (n : Nat), xs = [V.ref a] ∧ H a = some (SetO X.w a S n) ∧ n < 64 ∧ Q (.int (n : Nat)) H) := by
  intro pins s σ H xs us Q I r h
  obtain ⟨a, S, n, rfl, ha, hn, q⟩ := h
  rw [Vals.ref1 r]
  obtain ⟨o, es, ep, t, ho, hex, hd, g, nd, hm, hb, hf, he, _⟩ := setO_get I ha
  refine call_len_set ho hex hd hf (by rw [he]; omega) ⟨.int (n : Nat), H, I.tok _, ⟨_, by rw [he]⟩, q⟩
end
end K66
namespace K66
open PySem PySem.Spec PyProof.Rows L2
/-! ## the text -/
def topS (i : Nat) : Stmt := PySem.Challenge.pw_fewestpours_k66_whole_rounds_and_pours_p.main.body.getD i (.Pass ⟨0, 0, 0, 0⟩)
abbrev dApart : Stmt := topS 1
abbrev dRounds : Stmt := topS 2
abbrev dSettled : Stmt := topS 3
abbrev dExch : Stmt := topS 4
abbrev dJoined : Stmt := topS 5
abbrev dPut : Stmt := topS 6
abbrev dDraw : Stmt := topS 8
abbrev dAny : Stmt := topS 9
abbrev dOf : Stmt := topS 10
abbrev dMixed : Stmt := topS 11
abbrev dDealt : Stmt := topS 12
abbrev dStanding : Stmt := topS 13
abbrev dPour : Stmt := topS 14
abbrev dPoured : Stmt := topS 15
abbrev dLApart : Stmt := topS 16
abbrev dTurns : Stmt := topS 17
abbrev dAll : Stmt := topS 18
abbrev dBehind : Stmt := topS 19
abbrev dIsRow : Stmt := topS 20
abbrev dRow : Stmt := topS 21
abbrev dLPut : Stmt := topS 22
abbrev dLaw : Stmt := topS 23
abbrev nApart : List Str := ["one", "other", "block"]
theorem scApart : FnScope nApart ["one", "other"] (defScope dApart) := ⟨rfl, rfl, rfl, by decide +kernel, rfl, by decide +kernel, by decide +kernel⟩
theorem same_upd {H : Hp} {p : Addr} {o : HO} (h : H p = none) : Same H (upd H p o) := fun b x e => by
  rw [upd_ne (ne_of_none e h)]
  exact e
theorem same_put {H H' : Hp} {p : Addr} {o : HO} (sm : Same H H') (h : H p = none) : Same H (upd H' p o) := fun b x e => by
  rw [upd_ne (ne_of_none e h)]
  exact sm b x e
theorem take_map {α β : Type} (f : α → β) {xs : List α} {i : Nat} {x : α} (h : xs[i]? = some x) : (xs.take (i + 1)).map f = (xs.take i).map f ++ [f x] := by
  rw [List.take_add_one, h, List.map_append]
  rfl
theorem map_some {α β : Type} {f : α → β} {xs : List α} {i : Nat} {y : β} (h : (xs.map f)[i]? = some y) : ∃ x, xs[i]? = some x ∧ y = f x := by
  rw [List.getElem?_map] at h
  cases e : xs[i]? with
  | none => rw [e] at h; cases h
  | some x =>
    rw [e] at h
    cases h
    exact ⟨x, rfl, rfl⟩
theorem lt_line {n m : Nat} (h : n ≤ m) (hm : m ≤ 1000) : n < sizeLine := small1000 (Nat.le_trans h hm)
theorem le_line {n m : Nat} (h : n ≤ m) (hm : m ≤ 1000) : n ≤ sizeLine := Nat.le_of_lt (lt_line h hm)
theorem take_le {α : Type} (xs : List α) (i : Nat) : (xs.take i).length ≤ xs.length := by
  rw [List.length_take]
  exact Nat.min_le_right _ _
theorem paired_get1 {α β : Type} {R : α → β → Prop} {as : List α} {bs : List β} {j : Nat} {b : β} (h : Paired R as bs) (e : bs[j]? = some b) : ∃ a, as[j]? = some a ∧ R a b := by
  have hl := Paired.length h
  have hj : j < as.length := by
    have := (List.getElem?_eq_some_iff.mp e).1
    omega
  exact ⟨as[j], List.getElem?_eq_getElem hj, paired_get h (List.getElem?_eq_getElem hj) e⟩
theorem paired_get2 {α β : Type} {R : α → β → Prop} {as : List α} {bs : List β} {j : Nat} {a : α} (h : Paired R as bs) (e : as[j]? = some a) : ∃ b, bs[j]? = some b ∧ R a b := by
  have hl := Paired.length h
  have hj : j < bs.length := by
    have := (List.getElem?_eq_some_iff.mp e).1
    omega
  exact ⟨bs[j], List.getElem?_eq_getElem hj, paired_get h e (List.getElem?_eq_getElem hj)⟩
theorem Good.mono {nb nb' : Nat} {p : Pour} (g : Good nb p) (h : nb ≤ nb') : Good nb' p := ⟨g.asc, fun k hk => by have := g.rng k hk; omega, g.len, g.two, g.parts⟩
theorem Good.who1000 {p : Pour} (g : Good 8 p) : p.1.length ≤ 1000 := Nat.le_trans g.short (by decide)
theorem tYes_ok {σ : L2.St} {H : Hp} {Q : Bool → Hp → Prop} (h : Q true H) : tYes σ H Q := h
section
variable {P : Program} {w : World} {K : PySem.W.Frag} {mg : Str → Option Value} {base : Heap}
/-! ### are_apart -/
theorem in_ints (b : Int) (ns : List Int) : inV (.int b) (ns.map V.int) = ns.contains b := by
  unfold inV
  rw [List.any_map]
  induction ns with
  | nil => rfl
  | cons n r ih =>
    rw [List.any_cons, ih, List.contains_cons]
    congr 1
    show eqV (.int n) (.int b) = _
    show (n == b) = (b == n)
    exact BEq.comm
theorem flat_ints (ns : List Int) : (ns.map V.int).all flatV = true := by
  rw [List.all_map]
  exact List.all_eq_true.mpr fun n _ => rfl
def spApart : Sp := fun vs H Q _ => ∃ (x y : V) (p q : Pour), vs = [x, y] ∧ PourT H x p ∧ PourT H y q ∧ Good 8 p ∧ ∀ H', Same H H' → Q (.bl (apart p q)) H'
theorem ok_apart {f : Addr} {fd : FuncData} {k : Nat} (F : Fun K "are_apart" "are_apart" dApart f fd) (ma : mg "any" = none) : FnOk P w K mg base CX0 (k + 1) f fd ["one", "other"] spApart := by
  refine F.ok scApart (fun vs H Q E h => ?_) (fun cdv A outer s H vs Q E hr h => ?_)
  · obtain ⟨x, y, p, q, rfl, _⟩ := h
    rfl
  · obtain ⟨x, y, p, q, rfl, hx, hy, gp, qq⟩ := h
    refine ⟨_, pss_one (ps_ret (pe_not (pe_callB (cr_any rfl) (by rfl) ma (by decide +kernel) (pa_cons (pe_lc (own := [("block", 2)]) (g := gName 2) (tt := tYes) rfl scApart.nd (pi_tup (pe_ix ix_tup (pv 0) pe_int (fun _ _ => rfl)))
      (blkOk_by (N := nApart) (sc := defScope dApart) (by decide +kernel)) (fun _ _ _ _ _ => pg_name (i := 2) scApart.nd rfl (Or.inl rfl)) (fun _ _ _ _ _ => pts_nil)
      (fun _ _ _ _ _ => pe_cmpR (r := rIn K false) op_in_seq (pv 2) (pe_ix (r := rIxT K) ix_tup (pv 1) pe_int (fun _ _ => rfl)) rfl)) pa_nil)))), ?_⟩
    obtain ⟨a, x1, x2, rfl, ea, ⟨a1, rfl, ea1⟩, _⟩ := hx
    obtain ⟨b, y1, y2, rfl, eb, ⟨b1, rfl, eb1⟩, _⟩ := hy
    refine ⟨.ref a, rfl, a, _, 0, _, rfl, rfl, SqT.of ea, atI_nat (j := 0) rfl, a1, rfl, ⟨_, SqT.of ea1⟩, fun D hD => ?_⟩
    have s1 : Same H (upd H D (.lst [])) := same_upd hD
    refine lc_tup (K := K) (a := a1) (xs := p.1.map V.int) (fun i H' => Same H H' ∧ H' D = some (.lst (((p.1.take i).map fun b => q.1.contains b).map V.bl))) ⟨s1, upd_same⟩ (fun i H' hi hP => SqT.of (hP.1 _ _ ea1)) (fun i z H' hz hP => ?_) fun H' hP => ?_
    · obtain ⟨sm, eD⟩ := hP
      obtain ⟨n, hn, rfl⟩ := map_some hz
      refine ⟨rfl, tYes_ok (iteT ?_)⟩
      refine ⟨.int n, rfl, .ref b, rfl, b, _, 0, _, rfl, rfl, SqT.of (sm _ _ eb), atI_nat (j := 0) rfl, b1, _, rfl, .inr (SqT.of (sm _ _ eb1)), rfl, flat_ints _, _, eD, ?_, same_put sm hD, ?_⟩
      · rw [List.length_map, List.length_map]
        exact lt_line (take_le _ _) gp.who1000
      · rw [upd_same, take_map _ hn, List.map_append, ← in_ints]
        rfl
    · obtain ⟨sm, eD⟩ := hP
      rw [List.length_map, List.take_length] at eD
      refine ⟨D, _, rfl, SqL.of eD, _, rfl, ?_⟩
      rw [List.any_map]
      exact qq H' sm
end
end K66
namespace K66
open PySem PySem.Spec PyProof.Rows L2
theorem atI_0 {xs : List V} {j : Nat} {v : V} (h : xs[j]? = some v) : atI xs (0 + (j : Int)) = some v := by
  rw [Int.zero_add]
  exact atI_nat h
theorem boot_max' : bootBuiltins "max" = some (.builtin "max") := by decide +kernel
theorem boot_tuple' : bootBuiltins "tuple" = some (.type "tuple") := by decide +kernel
theorem boot_list' : bootBuiltins "list" = some (.type "list") := by decide +kernel
theorem boot_any' : bootBuiltins "any" = some (.builtin "any") := by decide +kernel
theorem boot_len' : bootBuiltins "len" = some (.builtin "len") := by decide +kernel
theorem boot_set' : bootBuiltins "set" = some (.type "set") := by decide +kernel
theorem boot_sorted' : bootBuiltins "sorted" = some (.builtin "sorted") := by decide +kernel
theorem boot_dict' : bootBuiltins "dict" = some (.type "dict") := by decide +kernel
theorem boot_abs' : bootBuiltins "abs" = some (.builtin "abs") := by decide +kernel
theorem boot_int' : bootBuiltins "int" = some (.type "int") := by decide +kernel
theorem boot_min' : bootBuiltins "min" = some (.builtin "min") := by decide +kernel
theorem boot_repr' : bootBuiltins "repr" = some (.builtin "repr") := by decide +kernel
abbrev nRounds : List Str := ["row", "found", "at", "pour", "before"]
theorem scRounds : FnScope nRounds ["row"] (defScope dRounds) := ⟨rfl, rfl, rfl, by decide +kernel, rfl, by decide +kernel, by decide +kernel⟩
theorem ahead_snoc (A : List (Pour × Int)) (x : Pour × Int) (p : Pour) : aheadOf (A ++ [x]) p = if apart x.1 p = true then aheadOf A p else aheadOf A p ++ [x.2 + 1] := by
  unfold aheadOf
  rw [List.filter_append, List.map_append]
  cases h : apart x.1 p with
  | true => simp [h]
  | false => simp [h]
theorem ahead_le (A : List (Pour × Int)) (p : Pour) : (aheadOf A p).length ≤ A.length := by
  unfold aheadOf
  rw [List.length_map]
  exact List.length_filter_le _ _
section
variable {P : Program} {w : World} {K : PySem.W.Frag} {mg : Str → Option Value} {base : Heap}
def spRounds : Sp := fun vs H Q _ => ∃ (x : V) (row : Row), vs = [x] ∧ RowT H x row ∧ (∀ p ∈ row, Good 8 p) ∧ row.length ≤ 100 ∧ ∀ (H' : Hp) (t : Addr), Same H H' → H t = none → H' t = some (.tup ((rounds row).map V.int)) → Q (.ref t) H'
theorem ok_rounds {f fA : Addr} {fd fdA : FuncData} (F : Fun K "rounds_of" "rounds_of" dRounds f fd) (FA : Fun K "are_apart" "are_apart" dApart fA fdA) (bA : Binds K fdA ["one", "other"] []) (gA : mg "are_apart" = some (.ref fA))
    (ma : mg "any" = none) (me : mg "enumerate" = none) (mm : mg "max" = none) (mr : mg "range" = none) (mt : mg "tuple" = none) : FnOk P w K mg base CX0 2 f fd ["row"] spRounds := by
  have GA : FnOk P w K mg base CX0 1 fA fdA ["one", "other"] spApart := ok_apart FA ma
  refine F.ok scRounds (fun vs H Q E h => ?_) (fun cdv A outer s H vs Q E hr h => ?_)
  · obtain ⟨x, row, rfl, _⟩ := h
    rfl
  · obtain ⟨x, row, rfl, hx, good, hlen, q⟩ := h
    refine ⟨_, pss_cons (ps_set (i := 1) scRounds.nd rfl (.inr rfl) (pe_lst pa_nil))
      (pss_cons (ps_for PassesOwn.never rfl (pi_enumT (by rfl) me (pa_cons (pv 0) pa_nil)) (pg_tup rfl (pgs_cons (pg_name (i := 2) scRounds.nd rfl (.inl rfl)) (pgs_cons (pg_name (i := 3) scRounds.nd rfl (.inr rfl)) pgs_nil)))
        (pss_one (ps_expr (pe_bm PySem.F.plainAttrs_list PySem.F.slot_list_append PySem.F.type_list_append mt_append (pv 1) (pa_cons
          (pe_callB (cr_max rfl) (by rfl) mm boot_max' (pa_cons (pe_op op_cat (pe_lst (pa_cons pe_int pa_nil))
            (pe_lc (own := [("before", 4)]) (g := gName 4) rfl scRounds.nd (pi_range1 (by rfl) mr (pa_cons (pv 2) pa_nil)) (blkOk_by (N := nRounds) (sc := defScope dRounds) (by decide +kernel)) (fun _ _ _ _ _ => pg_name (i := 4) scRounds.nd rfl (Or.inl rfl))
              (fun _ _ _ _ _ => pts_one (pt_not (pt_val (pe_call (E := E0) (dvs := []) (ds := []) (sp := spApart) GA hr (by rfl) gA FA.kp bA .nil pass0 (pa_cons (pe_ix (r := rIxT K) ix_tup (pv 0) (pv 4) (fun _ _ => rfl)) (pa_cons (pv 3) pa_nil))))))
              (fun _ _ _ _ _ => pe_op (r := rI0 fun i j => .int (i + j)) op_add (pe_ix (r := rIxL K) ix_list (pv 1) (pv 4) (fun _ _ => rfl)) pe_int))) pa_nil)) pa_nil)))))
      (pss_one (ps_ret (pe_callTy call_tuple_of (by rfl) mt boot_tuple' (pa_cons (pv 1) pa_nil))))), ?_⟩
    obtain ⟨a, ps, rfl, ea, hps⟩ := hx
    have hpl := Paired.length hps
    -- found = []
    refine ⟨Nat.zero_le _, fun o no => ?_⟩
    have s1 : Same H (upd H o (.lst [])) := same_upd no
    refine ⟨.ref a, rfl, a, ps, rfl, SqT.of (s1 _ _ ea), ?_⟩
    refine for_enumT (xs := ps) (fun i σ H' => ∃ v2 v3, σ = [some (.ref a), some (.ref o), v2, v3, none] ∧ Same H H' ∧ H' o = some (.lst ((rounds (row.take i)).map V.int))) ⟨none, none, rfl, s1, upd_same⟩
      (fun i σ H' hP => by obtain ⟨_, _, _, sm, _⟩ := hP; exact SqT.of (sm _ _ ea)) (fun i y T σ H' hy hP nT => ?_) fun σ H' hP => ?_
    · obtain ⟨v2, v3, rfl, sm, eo⟩ := hP
      obtain ⟨p, hp, hyp⟩ := paired_get2 hps hy
      have hi : i < row.length := (List.getElem?_eq_some_iff.mp hp).1
      have gp : Good 8 p := good p (List.mem_of_getElem? hp)
      refine ⟨T, [.int (i : Nat), y], rfl, SqT.of upd_same, rfl, .int (i : Nat), [y], rfl, y, [], rfl, rfl, ?_⟩
      have smT : Same H (upd H' T (.tup [.int (i : Nat), y])) := sm.trans (same_upd nT)
      have eoT : upd H' T (.tup [.int (i : Nat), y]) o = some (.lst ((rounds (row.take i)).map V.int)) := by
        rw [upd_ne (ne_of_none eo nT)]
        exact eo
      refine ⟨.ref o, rfl, .inl ⟨rfl, _, SqL.of eoT⟩, ?_⟩
      -- [0] + [...]
      refine ⟨Nat.succ_le_of_lt (lt_line (Nat.zero_le 0) (by decide)), fun l nl => ?_⟩
      generalize hH3 : upd (upd H' T (.tup [.int (i : Nat), y])) l (.lst [.int 0]) = H3
      have sm3 : Same H H3 := by rw [← hH3]; exact smT.trans (same_upd nl)
      have el3 : H3 l = some (.lst [.int 0]) := by rw [← hH3]; exact upd_same
      have eo3 : H3 o = some (.lst ((rounds (row.take i)).map V.int)) := by rw [← hH3, upd_ne (ne_of_none eoT nl)]; exact eoT
      refine ⟨.int (i : Nat), rfl, (i : Int), rfl, by omega, by omega, fun D hD => ?_⟩
      have hA : ((row.take i).zip (rounds (row.take i))).length = i := by
        rw [List.length_zip, rounds_length, Nat.min_self, List.length_take]
        omega
      refine lc_range (lo := 0) (n := i) (fun j H4 => Same H3 H4 ∧ H4 D = some (.lst ((aheadOf (((row.take i).zip (rounds (row.take i))).take j) p).map V.int))) ⟨same_upd hD, upd_same⟩ (fun j H4 hj hP4 => ?_) fun H4 hP4 => ?_
      · obtain ⟨sm4, eD4⟩ := hP4
        have hjr : j < row.length := by omega
        have ej : row[j]? = some row[j] := List.getElem?_eq_getElem hjr
        obtain ⟨yj, hyj, hpj⟩ := paired_get1 hps ej
        have hjr2 : j < (rounds (row.take i)).length := by
          rw [rounds_length, List.length_take]
          omega
        have er : (rounds (row.take i))[j]? = some (rounds (row.take i))[j] := List.getElem?_eq_getElem hjr2
        have ez : ((row.take i).zip (rounds (row.take i)))[j]? = some (row[j], (rounds (row.take i))[j]) := by
          rw [List.getElem?_zip_eq_some, List.getElem?_take_of_lt hj]
          exact ⟨ej, er⟩
        refine ⟨rfl, ?_⟩
        have te34 : TE2 H H4 := TE2.of (sm3.trans sm4)
        refine ⟨.ref a, rfl, .int (0 + (j : Nat)), rfl, a, ps, _, yj, rfl, rfl, SqT.of (te34 _ _ ea), atI_0 hyj, y, rfl, yj, y, row[j], p, rfl, hpj.te te34, hyp.te te34, good _ (List.getElem_mem hjr), fun H5 sm5 => ⟨_, rfl, ?_⟩⟩
        have eD5 : H5 D = some (.lst ((aheadOf (((row.take i).zip (rounds (row.take i))).take j) p).map V.int)) := sm5 _ _ eD4
        have hstep : aheadOf (((row.take i).zip (rounds (row.take i))).take (j + 1)) p = if apart row[j] p = true then aheadOf (((row.take i).zip (rounds (row.take i))).take j) p else aheadOf (((row.take i).zip (rounds (row.take i))).take j) p ++ [(rounds (row.take i))[j] + 1] := by
          rw [List.take_add_one, ez]
          exact ahead_snoc _ _ _
        cases hap : apart row[j] p with
        | true =>
          refine iteF ⟨sm4.trans sm5, ?_⟩
          rw [eD5, hstep, hap, if_pos rfl]
        | false =>
          refine iteT ⟨.ref o, rfl, .int (0 + (j : Nat)), rfl, o, _, _, .int (rounds (row.take i))[j], rfl, rfl, SqL.of (sm5 _ _ (sm4 _ _ eo3)), atI_0 (by rw [List.getElem?_map, er]; rfl), _, 1, rfl, rfl, _, eD5, ?_, same_put (sm4.trans sm5) hD, ?_⟩
          · rw [List.length_map]
            exact lt_line (Nat.le_trans (ahead_le _ _) (Nat.le_trans (take_le _ _) (Nat.le_of_eq hA))) (by omega)
          · rw [upd_same, hstep, hap, if_neg Bool.false_ne_true, List.map_append]
            rfl
      · obtain ⟨sm4, eD4⟩ := hP4
        rw [List.take_of_length_le (Nat.le_of_eq hA)] at eD4
        have hal := ahead_le ((row.take i).zip (rounds (row.take i))) p
        refine ⟨l, D, _, _, rfl, rfl, sm4 _ _ el3, eD4, ?_, fun c nc => ?_⟩
        · rw [List.length_map]
          exact le_line (m := 1000) (by rw [List.length_singleton]; omega) (Nat.le_refl _)
        · refine ⟨c, 0 :: aheadOf ((row.take i).zip (rounds (row.take i))) p, rfl, SqL.of upd_same, Nat.succ_pos _, fun m hm hle => ?_⟩
          have em : m = nextR ((row.take i).zip (rounds (row.take i))) p := mx_unique hm hle
          subst em
          have eo4 : upd H4 c (.lst ([.int 0] ++ (aheadOf ((row.take i).zip (rounds (row.take i))) p).map V.int)) o = some (.lst ((rounds (row.take i)).map V.int)) := by
            rw [upd_ne (ne_of_none (sm4 _ _ eo3) nc)]
            exact sm4 _ _ eo3
          refine ⟨o, _, _, rfl, rfl, eo4, ?_, ?_⟩
          · rw [List.length_map, rounds_length]
            exact lt_line (take_le _ _) (by omega)
          · refine ⟨_, _, rfl, same_put ((sm3.trans sm4).trans (same_upd nc)) no, ?_⟩
            rw [upd_same, rounds_take _ _ _ hp, List.map_append]
            rfl
    · obtain ⟨v2, v3, rfl, sm, eo⟩ := hP
      rw [hpl, List.take_length] at eo
      refine ⟨.ref o, rfl, o, _, rfl, .inl ⟨SqL.of eo, fun t nt => ?_⟩⟩
      exact q _ t (sm.trans (same_upd nt)) (sm.free nt) upd_same
end
end K66
namespace K66
open PySem PySem.Spec PyProof.Rows L2
abbrev stl (row : Row) : Row := K66.settled leRP row
abbrev nSettled : List Str := ["row", "turn", "pour"]
theorem scSettled : FnScope nSettled ["row"] (defScope dSettled) := ⟨rfl, rfl, rfl, by decide +kernel, rfl, by decide +kernel, by decide +kernel⟩
abbrev nExch : List Str := ["one", "other"]
theorem scExch : FnScope nExch ["one", "other"] (defScope dExch) := ⟨rfl, rfl, rfl, by decide +kernel, rfl, by decide +kernel, by decide +kernel⟩
/-- a list's store leaves the tuples -/
theorem te_put {H : Hp} {D : Addr} {l : List V} {o : HO} (e : H D = some (.lst l)) : TE2 H (upd H D o) := fun c xs q => by
  rw [upd_ne (ne_of q e (by intro z; cases z))]
  exact q
theorem te_new {H : Hp} {D : Addr} {o : HO} (e : H D = none) : TE2 H (upd H D o) := TE2.of (same_upd e)
/-- the end of a comprehension over pairs: the second items -/
theorem rp_list {K : PySem.W.Frag} {H2 : Hp} {L : Addr} {Ts : List Addr} {bs : List (Int × Pour)} {i1 i2 : Nat} {σ : L2.St} {Qd : Hp → Prop} {D : Addr} (eL : H2 L = some (.lst (Ts.map V.ref)))
    (hT : Paired (fun (T : Addr) (b : Int × Pour) => ∃ y, H2 T = some (.tup [.int b.1, y]) ∧ PourT H2 y b.2) Ts bs) (hlen : bs.length ≤ 1000) (hD : H2 D = none)
    (hw : ∀ a b : V, wipe (((wipe σ [i1, i2]).set i1 (some a)).set i2 (some b)) [i1, i2] = wipe σ [i1, i2]) (hg : ∀ a b : V, (((wipe σ [i1, i2]).set i1 (some a)).set i2 (some b))[i2]? = some (some b))
    (hd : ∀ H' ys', Same H2 H' → H' D = some (.lst ys') → Paired (PourT H') ys' (bs.map (·.2)) → Qd H') :
    ∃ W : Nat → Nat → Hp → Prop, (∃ m, W 0 m (upd H2 D (.lst []))) ∧ ∀ i m H, W i m H →
      ((Itl K L).stop i H ∧ Qd H) ∨ ((Itl K L).go i H ∧ ∃ Nx : Hp → Prop, (∀ H', Nx H' → ∃ m', m' < m ∧ W (i + 1) m' H') ∧ ∀ x H', (Itl K L).yld i H x H' → gTup K 2 (gCons (gName i1) (gCons (gName i2) gNil)) x (wipe σ [i1, i2]) H' fun σ2 H2 => wipe σ2 [i1, i2] = wipe σ [i1, i2] ∧ tYes σ2 H2 fun b H3 =>
        if b = true then tVar i2 σ2 H3 fun y H4 => ∃ acc, H4 D = some (.lst acc) ∧ acc.length < sizeLine ∧ Nx (upd H4 D (.lst (acc ++ [y]))) else Nx H3) := by
  refine lc_list (K := K) (a := L) (xs := Ts.map V.ref) (fun i H' => Same H2 H' ∧ ∃ ys', H' D = some (.lst ys') ∧ Paired (PourT H') ys' ((bs.take i).map (·.2))) ⟨same_upd hD, [], upd_same, .nil⟩ (fun i H' _ hP => SqL.of (hP.1 _ _ eL)) (fun i z H' hz hP => ?_) fun H' hP => ?_
  · obtain ⟨sm, ys', eD, hy⟩ := hP
    obtain ⟨T, hTi, rfl⟩ := map_some hz
    obtain ⟨b, hb, y, eT, hyp⟩ := paired_get2 hT hTi
    refine ⟨T, [.int b.1, y], rfl, SqT.of (sm _ _ eT), rfl, .int b.1, [y], rfl, y, [], rfl, rfl, hw _ _, tYes_ok (iteT ?_)⟩
    refine ⟨y, hg _ _, ys', eD, ?_, same_put sm hD, ys' ++ [y], upd_same, ?_⟩
    · have := Paired.length hy
      rw [List.length_map] at this
      rw [this]
      exact lt_line (take_le _ _) hlen
    · rw [take_map _ hb]
      exact Paired.snoc (pours_te (te_put eD) hy) (hyp.te (TE2.of (same_put sm hD)))
  · obtain ⟨sm, ys', eD, hy⟩ := hP
    have hl := Paired.length hT
    rw [List.length_map, hl, List.take_length] at hy
    exact hd H' ys' sm eD hy
section
variable {P : Program} {w : World} {K : PySem.W.Frag} {mg : Str → Option Value} {base : Heap}
def spSettled : Sp := fun vs H Q _ => ∃ (x : V) (row : Row), vs = [x] ∧ RowT H x row ∧ (∀ p ∈ row, Good 8 p) ∧ row.length ≤ 100 ∧ ∀ (H' : Hp) (v : V), Same H H' → RowT H' v (stl row) → Q v H'
theorem ok_settled {f fR : Addr} {fd fdR : FuncData} {k : Nat} (F : Fun K "settled" "settled" dSettled f fd) (FR : Fun K "rounds_of" "rounds_of" dRounds fR fdR) (GR : FnOk P w K mg base CX0 2 fR fdR ["row"] spRounds) (bR : Binds K fdR ["row"] []) (gR : mg "rounds_of" = some (.ref fR))
    (ms : mg "sorted" = none) (mz : mg "zip" = none) (mt : mg "tuple" = none) : FnOk P w K mg base CX0 3 f fd ["row"] spSettled := by
  refine F.ok scSettled (fun vs H Q E h => ?_) (fun cdv A outer s H vs Q E hr h => ?_)
  · obtain ⟨x, row, rfl, _⟩ := h
    rfl
  · obtain ⟨x, row, rfl, hx, good, hlen, q⟩ := h
    refine ⟨_, pss_one (ps_ret (pe_callTy call_tuple_of (by rfl) mt boot_tuple' (pa_cons
      (pe_lc (own := [("turn", 1), ("pour", 2)]) (g := gTup K 2 (gCons (gName 1) (gCons (gName 2) gNil))) (tt := tYes) rfl scSettled.nd
        (pi_list (pe_sortZip rfl hr.units (by rfl) mz (by rfl) ms (pa_cons (pe_call GR hr (by rfl) gR FR.kp bR .nil pass0 (pa_cons (pv 0) pa_nil)) (pa_cons (pv 0) pa_nil))))
        (blkOk_by (N := nSettled) (sc := defScope dSettled) (by decide +kernel))
        (fun _ _ _ _ _ => pg_tup rfl (pgs_cons (pg_name (i := 1) scSettled.nd rfl (.inl rfl)) (pgs_cons (pg_name (i := 2) scSettled.nd rfl (.inl rfl)) pgs_nil)))
        (fun _ _ _ _ _ => pts_nil) (fun _ _ _ _ _ => pv 2)) pa_nil))), ?_⟩
    have hrow := hx
    obtain ⟨a, ps, rfl, ea, hps⟩ := hx
    refine ⟨.ref a, rfl, .ref a, row, rfl, hrow, good, hlen, fun H1 t sm1 nt et => ?_⟩
    refine ⟨.ref a, rfl, t, a, rounds row, ps, row, rfl, .inr (SqT.of et), .inr (SqT.of (sm1 _ _ ea)), pours_te (TE2.of sm1) hps, rounds_length row, fun H2 L Ts sm2 nL eL hTs => ?_⟩
    have hsl : (((rounds row).zip row).mergeSort leRP).length ≤ 1000 := by
      rw [List.length_mergeSort, List.length_zip, rounds_length, Nat.min_self]
      omega
    refine ⟨L, rfl, ⟨_, SqL.of eL⟩, fun D hD => ?_⟩
    refine rp_list eL (L2.Paired.mapP hTs fun T b z => let ⟨y, _, e1, e2⟩ := z; ⟨y, e1, e2⟩) hsl hD (fun _ _ => rfl) (fun _ _ => rfl) fun H3 ys' sm3 eD hy => ?_
    refine ⟨D, _, rfl, .inl ⟨SqL.of eD, fun l nl => ?_⟩⟩
    exact q _ (.ref l) (((sm1.trans sm2).trans sm3).trans (same_upd nl)) ⟨l, ys', rfl, upd_same, pours_te (te_new nl) hy⟩
/-! ### are_exchanges -/
def spExch : Sp := fun vs H Q _ => ∃ (x y : V) (a b : Row), vs = [x, y] ∧ RowT H x a ∧ RowT H y b ∧ (∀ p ∈ a, Good 8 p) ∧ (∀ p ∈ b, Good 8 p) ∧ a.length ≤ 100 ∧ b.length ≤ 100 ∧ ∀ (H' : Hp), Same H H' → Q (.bl (decide (stl a = stl b))) H'
theorem ok_exch {f fS : Addr} {fd fdS : FuncData} (F : Fun K "are_exchanges" "are_exchanges" dExch f fd) (FS : Fun K "settled" "settled" dSettled fS fdS) (GS : FnOk P w K mg base CX0 3 fS fdS ["row"] spSettled) (bS : Binds K fdS ["row"] []) (gS : mg "settled" = some (.ref fS)) :
    FnOk P w K mg base CX0 4 f fd ["one", "other"] spExch := by
  refine F.ok scExch (fun vs H Q E h => ?_) (fun cdv A outer s H vs Q E hr h => ?_)
  · obtain ⟨x, y, a, b, rfl, _⟩ := h
    rfl
  · obtain ⟨x, y, a, b, rfl, hx, hy, ga, gb, la, lb, q⟩ := h
    refine ⟨_, pss_one (ps_ret (pe_cmpR (op_eqD hr.units) (pe_call GS hr (by rfl) gS FS.kp bS .nil pass0 (pa_cons (pv 0) pa_nil)) (pe_call GS hr (by rfl) gS FS.kp bS .nil pass0 (pa_cons (pv 1) pa_nil)) (nomark _))), ?_⟩
    refine ⟨x, rfl, x, a, rfl, hx, ga, la, fun H1 v1 sm1 r1 => ?_⟩
    refine ⟨y, rfl, y, b, rfl, hy.te (TE2.of sm1), gb, lb, fun H2 v2 sm2 r2 => ?_⟩
    refine ⟨_, _, (r1.te (TE2.of sm2)).dp, r2.dp, shaped_row _, shaped_row _, ?_⟩
    rw [eqv_encRow]
    exact q H2 (sm1.trans sm2)
end
end K66
namespace K66
open PySem PySem.Spec PyProof.Rows L2
/-! ## dicts from blocks to parts -/
/-- the dict's pairs kvs say just what L says -/
structure Held (H : Hp) (kvs : List (L2.Key × V)) (L : Int → Option (List Int)) : Prop where
  keyi : ∀ e ∈ kvs, ∃ k, e.1 = Sum.inl k
  nodup : (kvs.map (·.1)).Nodup
  val : ∀ k : Int, match L k with | some part => ∃ v, valV kvs (Sum.inl k) = some v ∧ IntsT H v part | none => valV kvs (Sum.inl k) = none
theorem Held.te {H H' : Hp} {kvs : List (L2.Key × V)} {L : Int → Option (List Int)} (h : Held H kvs L) (k : TE2 H H') : Held H' kvs L := ⟨h.keyi, h.nodup, fun n => by
  have := h.val n
  cases e : L n with
  | none => rw [e] at this; exact this
  | some part =>
    rw [e] at this
    obtain ⟨v, h1, h2⟩ := this
    exact ⟨v, h1, h2.te k⟩⟩
theorem Held.nil (H : Hp) : Held H [] (fun _ => none) := ⟨fun e he => absurd he List.not_mem_nil, List.Pairwise.nil, fun _ => rfl⟩
theorem Held.some' {H : Hp} {kvs : List (L2.Key × V)} {L : Int → Option (List Int)} (h : Held H kvs L) {k : Int} {part : List Int} (e : L k = some part) : ∃ v, valV kvs (Sum.inl k) = some v ∧ IntsT H v part := by
  have := h.val k
  rw [e] at this
  exact this
theorem Held.none' {H : Hp} {kvs : List (L2.Key × V)} {L : Int → Option (List Int)} (h : Held H kvs L) {k : Int} (e : L k = none) : valV kvs (Sum.inl k) = none := by
  have := h.val k
  rw [e] at this
  exact this
/-- one more -/
def putL (L : Int → Option (List Int)) (k : Int) (part : List Int) : Int → Option (List Int) := fun j => if j = k then some part else L j
theorem nodup_putK {kvs : List (L2.Key × V)} {k : L2.Key} (v : V) (hn : (kvs.map (·.1)).Nodup) : ((putK kvs k v).map (·.1)).Nodup := by
  cases e : valV kvs k with
  | none => exact nd_putK v hn e
  | some u =>
    unfold putK
    rw [valV_any, e]
    show ((kvs.map fun kv => if kv.1 = k then (kv.1, v) else kv).map (·.1)).Nodup
    rw [List.map_map]
    have e2 : ((fun x : L2.Key × V => x.1) ∘ fun kv : L2.Key × V => if kv.1 = k then (kv.1, v) else kv) = fun kv => kv.1 := by
      funext kv
      show (if kv.1 = k then (kv.1, v) else kv).1 = kv.1
      split <;> rfl
    rw [e2]
    exact hn
theorem mem_putK {kvs : List (L2.Key × V)} {k : L2.Key} {v : V} {e : L2.Key × V} (h : e ∈ putK kvs k v) : e.1 = k ∨ ∃ e' ∈ kvs, e'.1 = e.1 := by
  unfold putK at h
  split at h
  · obtain ⟨e', he, rfl⟩ := List.mem_map.mp h
    right
    refine ⟨e', he, ?_⟩
    split <;> rfl
  · rcases List.mem_append.mp h with h | h
    · exact .inr ⟨e, h, rfl⟩
    · rw [List.mem_singleton.mp h]
      exact .inl rfl
theorem Held.put {H : Hp} {kvs : List (L2.Key × V)} {L : Int → Option (List Int)} (h : Held H kvs L) (k : Int) {v : V} {part : List Int} (hv : IntsT H v part) : Held H (putK kvs (Sum.inl k) v) (putL L k part) := by
  refine ⟨fun e he => ?_, nodup_putK v h.nodup, fun j => ?_⟩
  · rcases mem_putK he with q | ⟨e', he', q⟩
    · exact ⟨k, q⟩
    · obtain ⟨n, hn⟩ := h.keyi e' he'
      exact ⟨n, by rw [← q]; exact hn⟩
  · by_cases e : j = k
    · subst e
      show match putL L j part j with | some part => _ | none => _
      unfold putL
      rw [if_pos rfl]
      exact ⟨v, by rw [valV_put, if_pos rfl], hv⟩
    · have e2 : ¬ (Sum.inl j : L2.Key) = Sum.inl k := fun z => e (Sum.inl.inj z)
      show match putL L k part j with | some part => _ | none => _
      unfold putL
      rw [if_neg e, valV_put, if_neg e2]
      exact h.val j
/-- the keys -/
theorem Held.keys {H : Hp} {kvs : List (L2.Key × V)} {L : Int → Option (List Int)} (h : Held H kvs L) : ∃ ks : List Int, kvs.map (·.1) = ks.map Sum.inl ∧ ks.Nodup ∧ ∀ k, k ∈ ks ↔ (L k).isSome = true := by
  obtain ⟨ks, hks⟩ : ∃ ks : List Int, kvs.map (·.1) = ks.map Sum.inl := by
    have := h.keyi
    clear h
    induction kvs with
    | nil => exact ⟨[], rfl⟩
    | cons e r ih =>
      obtain ⟨n, hn⟩ := this e List.mem_cons_self
      obtain ⟨ks, hks⟩ := ih fun e' he' => this e' (List.mem_cons_of_mem _ he')
      exact ⟨n :: ks, by rw [List.map_cons, hn, hks]; rfl⟩
  refine ⟨ks, hks, ?_, fun k => ?_⟩
  · have hn := h.nodup
    rw [hks] at hn
    exact (List.pairwise_map.mp hn).imp fun hab e => hab (by rw [e])
  · have hm : k ∈ ks ↔ (Sum.inl k : L2.Key) ∈ kvs.map (·.1) := by
      rw [hks, List.mem_map]
      constructor
      · intro hk
        exact ⟨k, hk, rfl⟩
      · rintro ⟨j, hj, e⟩
        rw [← Sum.inl.inj e]
        exact hj
    rw [hm]
    have := h.val k
    cases e : L k with
    | none =>
      rw [e] at this
      exact ⟨fun z => absurd z (valV_not this), fun z => by cases z⟩
    | some part =>
      rw [e] at this
      obtain ⟨v, hv, _⟩ := this
      exact ⟨fun _ => rfl, fun _ => valV_in hv⟩
/-- many more, each key once: what was there before stays where the row says nothing -/
def overL (L : Int → Option (List Int)) (ps : List (Int × List Int)) : Int → Option (List Int) := fun k => match ps.lookup k with | some v => some v | none => L k
theorem lookup_none {ps : List (Int × List Int)} {k : Int} (h : k ∉ ps.map (·.1)) : ps.lookup k = none := by
  rw [List.lookup_eq_none_iff]
  intro y hy
  have : k ≠ y.1 := fun e => h (List.mem_map.mpr ⟨y, hy, e.symm⟩)
  simpa [bne_iff_ne] using this
theorem overL_cons {L : Int → Option (List Int)} {k : Int} {part : List Int} {ps : List (Int × List Int)} (h : k ∉ ps.map (·.1)) : overL (putL L k part) ps = overL L ((k, part) :: ps) := by
  funext j
  unfold overL putL
  rw [List.lookup_cons]
  by_cases e : j = k
  · subst e
    rw [beq_self_eq_true, lookup_none h, if_pos rfl]
  · have e2 : (j == k) = false := by simpa using e
    rw [e2]
    cases ps.lookup j with
    | none => exact if_neg e
    | some v => rfl
theorem held_merge {H : Hp} : ∀ {who : List Int} {vs : List V} {parts : List (List Int)} {kvs : List (L2.Key × V)} {L : Int → Option (List Int)}, Held H kvs L → Paired (IntsT H) vs parts → who.length = vs.length → who.Nodup →
    Held H (mergeK kvs ((who.zip vs).map fun p => (Sum.inl p.1, p.2))) (overL L (who.zip parts))
  | [], _, _, _, _, h, _, _, _ => h
  | _ :: _, [], _, _, _, _, _, e, _ => by cases e
  | k :: who, v :: vs, _, kvs, L, h, .cons (b := part) (l₂ := parts) hv hp, e, hn => by
    obtain ⟨n1, n2⟩ := List.nodup_cons.mp hn
    have hl := Paired.length hp
    have ih := held_merge (h.put k hv) hp (by simpa using e) n2
    rw [overL_cons (by rw [zip_fst _ _ (by rw [← hl]; simpa using e)]; exact n1)] at ih
    exact ih
/-! ### joined -/
abbrev nJoined : List Str := ["first", "second", "parts", "block"]
theorem scJoined : FnScope nJoined ["first", "second"] (defScope dJoined) := ⟨rfl, rfl, rfl, by decide +kernel, rfl, by decide +kernel, by decide +kernel⟩
theorem dictP_of {K : PySem.W.Frag} {H : Hp} : ∀ {who : List Int} {vs : List V} {Ts : List Addr}, Paired (fun (T : Addr) (p : V × V) => H T = some (.tup [p.1, p.2])) Ts ((who.map V.int).zip vs) → who.length = vs.length →
    Paired (fun (p : Addr) (kv : L2.Key × V) => SqT K H p [kV kv.1, kv.2]) Ts ((who.zip vs).map fun p => (Sum.inl p.1, p.2))
  | [], _, _, h, _ => by
    have h' : Paired (fun (T : Addr) (p : V × V) => H T = some (.tup [p.1, p.2])) _ [] := h
    cases h'
    exact .nil
  | _ :: _, [], _, _, e => by cases e
  | k :: who, v :: vs, _, h, e => by
    have h' : Paired (fun (T : Addr) (p : V × V) => H T = some (.tup [p.1, p.2])) _ ((V.int k, v) :: (who.map V.int).zip vs) := h
    cases h' with
    | cons a t => exact .cons (SqT.of a) (dictP_of t (by simpa using e))
theorem paired_append {α β : Type} {R : α → β → Prop} : ∀ {as cs : List α} {bs ds : List β}, Paired R as bs → Paired R cs ds → Paired R (as ++ cs) (bs ++ ds)
  | _, _, _, _, .nil, s => s
  | _, _, _, _, .cons r t, s => .cons r (paired_append t s)
theorem merge_append (a b c : List (L2.Key × V)) : mergeK a (b ++ c) = mergeK (mergeK a b) c := by
  unfold mergeK
  rw [List.foldl_append]
section
variable {P : Program} {w : World} {K : PySem.W.Frag} {mg : Str → Option Value} {base : Heap}
def spJoined : Sp := fun vs H Q _ => ∃ (x y : V) (p q : Pour), vs = [x, y] ∧ PourT H x p ∧ PourT H y q ∧ Good 8 p ∧ Good 8 q ∧ ∀ (H' : Hp) (v : V), Same H H' → PourT H' v (joinM p q) → Q v H'
theorem ok_joined {f : Addr} {fd : FuncData} {k : Nat} (F : Fun K "joined" "joined" dJoined f fd) (md : mg "dict" = none) (mz : mg "zip" = none) (ms : mg "sorted" = none) (mt : mg "tuple" = none) : FnOk P w K mg base CX0 (k + 1) f fd ["first", "second"] spJoined := by
  refine F.ok scJoined (fun vs H Q E h => ?_) (fun cdv A outer s H vs Q E hr h => ?_)
  · obtain ⟨x, y, p, q, rfl, _⟩ := h
    rfl
  · obtain ⟨x, y, p, q, rfl, hx, hy, gp, gq, qq⟩ := h
    refine ⟨_, pss_cons (ps_set (i := 2) scJoined.nd rfl (.inr rfl) (pe_callTy (call_dictP rfl) (by rfl) md boot_dict' (pa_cons (pe_lst
        (pa_starZip rfl (by rfl) mz (pa_cons (pe_ix ix_tup (pv 0) pe_int (fun _ _ => rfl)) (pa_cons (pe_ix ix_tup (pv 0) pe_int (fun _ _ => rfl)) pa_nil))
        (pa_starZip rfl (by rfl) mz (pa_cons (pe_ix ix_tup (pv 1) pe_int (fun _ _ => rfl)) (pa_cons (pe_ix ix_tup (pv 1) pe_int (fun _ _ => rfl)) pa_nil)) pa_nil))) pa_nil)))
      (pss_one (ps_ret (pe_tup (pa_cons (pe_callTy call_tuple_of (by rfl) mt boot_tuple' (pa_cons (pe_callB (call_sortedDI rfl) (by rfl) ms boot_sorted' (pa_cons (pv 2) pa_nil)) pa_nil))
        (pa_cons (pe_callTy call_tuple_of (by rfl) mt boot_tuple' (pa_cons
          (pe_lc (own := [("block", 3)]) (g := gName 3) (tt := tYes) rfl scJoined.nd (pi_list (pe_callB (call_sortedDI rfl) (by rfl) ms boot_sorted' (pa_cons (pv 2) pa_nil))) (blkOk_by (N := nJoined) (sc := defScope dJoined) (by decide +kernel))
            (fun _ _ _ _ _ => pg_name (i := 3) scJoined.nd rfl (.inl rfl)) (fun _ _ _ _ _ => pts_nil) (fun _ _ _ _ _ => pe_dget (hu_of hr) (pv 2) (pv 3) (fun _ _ => rfl))) pa_nil)) pa_nil))))), ?_⟩
    obtain ⟨a, x1, x2, rfl, ea, ⟨a1, rfl, ea1⟩, ⟨a2, vs2, rfl, ea2, hv2⟩⟩ := hx
    obtain ⟨b, y1, y2, rfl, eb, ⟨b1, rfl, eb1⟩, ⟨b2, ws2, rfl, eb2, hw2⟩⟩ := hy
    have lv : p.1.length = vs2.length := by rw [Paired.length hv2, gp.len]
    have lw : q.1.length = ws2.length := by rw [Paired.length hw2, gq.len]
    refine ⟨.ref a, rfl, a, _, 0, _, rfl, rfl, SqT.of ea, atI_nat (j := 0) rfl, .ref a, rfl, a, _, 1, _, rfl, rfl, SqT.of ea, atI_nat (j := 1) rfl, a1, a2, p.1.map V.int, vs2, rfl, .inr (SqT.of ea1), .inr (SqT.of ea2), by rw [List.length_map]; exact lv, fun H1 T1 sm1 hT1 => ?_⟩
    refine ⟨.ref b, rfl, b, _, 0, _, rfl, rfl, SqT.of (sm1 _ _ eb), atI_nat (j := 0) rfl, .ref b, rfl, b, _, 1, _, rfl, rfl, SqT.of (sm1 _ _ eb), atI_nat (j := 1) rfl, b1, b2, q.1.map V.int, ws2, rfl, .inr (SqT.of (sm1 _ _ eb1)), .inr (SqT.of (sm1 _ _ eb2)), by rw [List.length_map]; exact lw, fun H2 T2 sm2 hT2 => ?_⟩
    have l1 : T1.length = p.1.length := by
      rw [Paired.length hT1, List.length_zip, List.length_map]
      omega
    have l2 : T2.length = q.1.length := by
      rw [Paired.length hT2, List.length_zip, List.length_map]
      omega
    have s1 := gp.short
    have s2 := gq.short
    refine ⟨?_, fun l nl => ?_⟩
    · rw [List.append_nil, List.length_append, List.length_map, List.length_map]
      exact le_line (m := 100) (by omega) (by decide)
    · have sm3 : Same H2 (upd H2 l (.lst (T1.map V.ref ++ (T2.map V.ref ++ [])))) := same_upd nl
      refine ⟨l, T1 ++ T2, ((p.1.zip vs2).map fun z => (Sum.inl z.1, z.2)) ++ ((q.1.zip ws2).map fun z => (Sum.inl z.1, z.2)), rfl, SqL.of (by rw [upd_same, List.append_nil, List.map_append]), ?_, fun d nd => ?_⟩
      · refine paired_append (dictP_of (L2.Paired.mapP hT1 fun T z h => sm3 _ _ (sm2 _ _ h.2)) lv) (dictP_of (L2.Paired.mapP hT2 fun T z h => sm3 _ _ h.2) lw)
      · generalize hH4 : upd (upd H2 l (.lst (T1.map V.ref ++ (T2.map V.ref ++ [])))) d (.dK (mergeK [] (((p.1.zip vs2).map fun z => (Sum.inl z.1, z.2)) ++ ((q.1.zip ws2).map fun z => (Sum.inl z.1, z.2))))) = H4
        have sm4 : Same H H4 := by rw [← hH4]; exact ((sm1.trans sm2).trans sm3).trans (same_upd nd)
        have ed : H4 d = some (.dK (mergeK [] (((p.1.zip vs2).map fun z => (Sum.inl z.1, z.2)) ++ ((q.1.zip ws2).map fun z => (Sum.inl z.1, z.2))))) := by rw [← hH4]; exact upd_same
        rw [merge_append] at ed
        generalize hkv : mergeK (mergeK [] ((p.1.zip vs2).map fun z => (Sum.inl z.1, z.2))) ((q.1.zip ws2).map fun z => (Sum.inl z.1, z.2)) = kvs at ed
        have held : Held H4 kvs (overL (overL (fun _ => none) (p.1.zip p.2)) (q.1.zip q.2)) := by
          rw [← hkv]
          exact held_merge (held_merge (Held.nil H4) (parts_te (TE2.of sm4) hv2) lv (asc_nodup gp.asc)) (parts_te (TE2.of sm4) hw2) lw (asc_nodup gq.asc)
        have hL : (overL (overL (fun _ => none) (p.1.zip p.2)) (q.1.zip q.2)) = fun k => match look k q with | some v => some v | none => look k p := by
          funext k
          unfold overL look
          cases (q.1.zip q.2).lookup k with
          | some v => rfl
          | none =>
            cases (p.1.zip p.2).lookup k with
            | some v => rfl
            | none => rfl
        rw [hL] at held
        obtain ⟨ks, hks, hnd, hmem⟩ := held.keys
        have gj := join_good gp gq
        have hmem2 : ∀ k, k ∈ ks ↔ k ∈ p.1 ++ q.1 := fun k => by
          rw [hmem, List.mem_append]
          by_cases hq : k ∈ q.1
          · obtain ⟨v, e, _⟩ := gq.look_some hq
            rw [e]
            exact ⟨fun _ => .inr hq, fun _ => rfl⟩
          · rw [look_none hq]
            by_cases hp : k ∈ p.1
            · obtain ⟨v, e, _⟩ := gp.look_some hp
              rw [e]
              exact ⟨fun _ => .inl hp, fun _ => rfl⟩
            · rw [look_none hp]
              exact ⟨fun z => absurd z Bool.false_ne_true, fun z => z.elim (fun z => absurd z hp) (fun z => absurd z hq)⟩
        have sortedIs : ∀ ys : List Int, ys.Perm ks → ys.Pairwise (· ≤ ·) → ys = (joinM p q).1 := fun ys h1 h2 =>
          asc_unique (le_asc h2 (h1.nodup_iff.mpr hnd)) (uni_asc _) fun z => by rw [h1.mem_iff, hmem2]; exact uni_mem.symm
        have hks64 : ks.length < 64 := by
          have h1 : ks.length ≤ (joinM p q).1.length := sub_len hnd fun z hz => uni_mem.mpr ((hmem2 z).mp hz)
          have h2 := gj.short
          omega
        -- tuple(sorted(parts))
        refine ⟨.ref d, rfl, d, kvs, ks, rfl, .inl ed, hks, hks64, fun ys r hp1 hp2 nr => ?_⟩
        have eys := sortedIs ys hp1 hp2
        subst eys
        refine ⟨r, _, rfl, .inl ⟨SqL.of upd_same, fun t nt => ?_⟩⟩
        generalize hH5 : upd (upd H4 r (.lst ((joinM p q).1.map V.int))) t (.tup ((joinM p q).1.map V.int)) = H5
        have sm5 : Same H4 H5 := by rw [← hH5]; exact (same_upd nr).trans (same_upd nt)
        have et : H5 t = some (.tup ((joinM p q).1.map V.int)) := by rw [← hH5]; exact upd_same
        -- tuple([parts[block] for block in sorted(parts)])
        refine ⟨.ref d, rfl, d, kvs, ks, rfl, .inl (sm5 _ _ ed), hks, hks64, fun ys r2 hp1 hp2 nr2 => ?_⟩
        have eys := sortedIs ys hp1 hp2
        subst eys
        generalize hH6 : upd H5 r2 (.lst ((joinM p q).1.map V.int)) = H6
        have sm6 : Same H5 H6 := by rw [← hH6]; exact same_upd nr2
        have er2 : H6 r2 = some (.lst ((joinM p q).1.map V.int)) := by rw [← hH6]; exact upd_same
        refine ⟨r2, rfl, ⟨_, SqL.of er2⟩, fun D hD => ?_⟩
        refine lc_list (K := K) (a := r2) (xs := (joinM p q).1.map V.int) (fun i H' => Same H6 H' ∧ ∃ ys', H' D = some (.lst ys') ∧ Paired (IntsT H') ys' ((joinM p q).2.take i)) ⟨same_upd hD, [], upd_same, .nil⟩ (fun i H' _ hP => SqL.of (hP.1 _ _ er2)) (fun i z H' hz hP => ?_) fun H' hP => ?_
        · obtain ⟨sm7, ys', eD, hy'⟩ := hP
          obtain ⟨n, hn, rfl⟩ := map_some hz
          have hnj : n ∈ (joinM p q).1 := List.mem_of_getElem? hn
          obtain ⟨part, hpart, _⟩ := gj.look_some hnj
          have hlk := join_look gp gq n
          rw [hpart] at hlk
          obtain ⟨v, hv, hvi⟩ := held.some' hlk.symm
          refine ⟨rfl, tYes_ok (iteT ?_)⟩
          refine ⟨.ref d, rfl, .int n, rfl, d, v, rfl, ?_, ys', eD, ?_, same_put sm7 hD, ys' ++ [v], upd_same, ?_⟩
          · rw [← hv]
            exact DGet.k (k := Sum.inl n) (sm7 _ _ (sm6 _ _ (sm5 _ _ ed)))
          · rw [Paired.length hy']
            refine lt_line (take_le _ _) ?_
            have := gj.short
            have := gj.len
            omega
          · have hi2 : (joinM p q).2[i]? = some part := by
              show (((joinM p q).1).map fun b => (look b q).getD ((look b p).getD []))[i]? = _
              rw [List.getElem?_map, hn]
              show some ((look n q).getD ((look n p).getD [])) = _
              cases hq : look n q with
              | some u =>
                rw [hq] at hlk
                cases hlk
                rfl
              | none =>
                rw [hq] at hlk
                have h3 : some part = look n p := hlk
                rw [← h3]
                rfl
            rw [List.take_add_one, hi2]
            exact Paired.snoc (parts_te (te_put eD) hy') (hvi.te (TE2.of ((sm5.trans sm6).trans (same_put sm7 hD))))
        · obtain ⟨sm7, ys', eD, hy'⟩ := hP
          rw [List.length_map, ← gj.len, List.take_length] at hy'
          refine ⟨D, _, rfl, .inl ⟨SqL.of eD, fun t2 nt2 => ?_⟩⟩
          refine ⟨by show 2 ≤ sizeLine; decide, fun t3 nt3 => ?_⟩
          have sm8 := (same_upd nt2 (o := .tup ys')).trans (same_upd nt3 (o := .tup [.ref t, .ref t2]))
          refine qq _ (.ref t3) (((sm4.trans sm5).trans sm6).trans (sm7.trans sm8)) ⟨t3, .ref t, .ref t2, rfl, upd_same, ⟨t, rfl, sm8 _ _ (sm7 _ _ (sm6 _ _ et))⟩, ⟨t2, ys', rfl, ?_, parts_te (TE2.of sm8) hy'⟩⟩
          exact same_upd nt3 _ _ upd_same
end
end K66
namespace K66
open PySem PySem.Spec PyProof.Rows L2
abbrev nPut : List Str := ["row", "m", "found", "pour"]
theorem scPut : FnScope nPut ["row", "m"] (defScope dPut) := ⟨rfl, rfl, rfl, by decide +kernel, rfl, by decide +kernel, by decide +kernel⟩
theorem paired_snoc_inv {α β : Type} {R : α → β → Prop} : ∀ {as : List α} {bs : List β} {b : β}, Paired R as (bs ++ [b]) → ∃ as' a, as = as' ++ [a] ∧ Paired R as' bs ∧ R a b
  | _, [], b, h => by
    have h' : Paired R _ [b] := h
    cases h' with
    | cons r t =>
      cases t
      exact ⟨[], _, rfl, .nil, r⟩
  | _, c :: bs, b, h => by
    have h' : Paired R _ (c :: (bs ++ [b])) := h
    cases h' with
    | cons r t =>
      obtain ⟨as', a, rfl, p, q⟩ := paired_snoc_inv t
      exact ⟨_ :: as', a, rfl, .cons r p, q⟩
theorem last_get {α : Type} (as : List α) (a : α) : (as ++ [a])[(as ++ [a]).length - 1]? = some a := by
  rw [List.length_append, List.length_singleton, Nat.add_sub_cancel, List.getElem?_append_right (Nat.le_refl _), Nat.sub_self]
  rfl
section
variable {P : Program} {w : World} {K : PySem.W.Frag} {mg : Str → Option Value} {base : Heap}
def spPut : Sp := fun vs H Q _ => ∃ (x : V) (row : Row) (m : Int), vs = [x, .int m] ∧ RowT H x row ∧ (∀ p ∈ row, Good 8 p) ∧ row.length ≤ 100 ∧ ∀ (H' : Hp) (v : V), Same H H' → RowT H' v (putM m row) → Q v H'
theorem ok_put {f fJ : Addr} {fd fdJ : FuncData} (F : Fun K "put_together" "put_together" dPut f fd) (FJ : Fun K "joined" "joined" dJoined fJ fdJ) (GJ : FnOk P w K mg base CX0 1 fJ fdJ ["first", "second"] spJoined) (bJ : Binds K fdJ ["first", "second"] []) (gJ : mg "joined" = some (.ref fJ))
    (ml : mg "len" = none) (mse : mg "set" = none) (mt : mg "tuple" = none) : FnOk P w K mg base CX0 2 f fd ["row", "m"] spPut := by
  refine F.ok scPut (fun vs H Q E h => ?_) (fun cdv A outer s H vs Q E hr h => ?_)
  · obtain ⟨x, row, m, rfl, _⟩ := h
    rfl
  · obtain ⟨x, row, m, rfl, hx, good, hlen, q⟩ := h
    refine ⟨_, pss_cons (ps_set (i := 2) scPut.nd rfl (.inl rfl) (pe_lst pa_nil))
      (pss_cons (ps_for PassesOwn.never rfl (pi_tup (pv 0)) (pg_name (i := 3) scPut.nd rfl (.inl rfl))
        (pss_cons (ps_while PassesOwn.never (PW.pt (pw_and (pt_cmpR op_gt (pe_callB call_len_seq (by rfl) ml boot_len' (pa_cons (pv 2) pa_nil)) pe_int (nomark _))
            (pw_and1 (pt_cmpR op_le (pe_callB cr_lenSet (by rfl) ml boot_len' (pa_cons (pe_callTy (cr_setI rfl) (by rfl) mse boot_set' (pa_cons (pe_lst
              (StX.pa_star (pe_ix ix_tup (pe_ix ix_list (pv 2) (pe_un un_neg pe_int) (fun _ _ => rfl)) pe_int (fun _ _ => rfl)) (StX.pa_star (pe_ix ix_tup (pv 3) pe_int (fun _ _ => rfl)) pa_nil))) pa_nil)) pa_nil)) (pv 1) (nomark _)))))
            (pss_one (ps_set (i := 3) scPut.nd rfl (.inl rfl) (pe_call GJ (hr.mono (by decide)) (by rfl) gJ FJ.kp bJ .nil pass0 (pa_cons (pe_bm0 PySem.F.plainAttrs_list PySem.F.slot_list_pop PySem.F.type_list_pop mt_pop (pv 2)) (pa_cons (pv 3) pa_nil))))))
          (pss_one (ps_expr (pe_bm PySem.F.plainAttrs_list PySem.F.slot_list_append PySem.F.type_list_append mt_append (pv 2) (pa_cons (pv 3) pa_nil))))))
      (pss_one (ps_ret (pe_callTy call_tuple_of (by rfl) mt boot_tuple' (pa_cons (pv 2) pa_nil))))), ?_⟩
    obtain ⟨a, ps, rfl, ea, hps⟩ := hx
    have hpl := Paired.length hps
    refine ⟨Nat.zero_le _, fun o no => ?_⟩
    have s1 : Same H (upd H o (.lst [])) := same_upd no
    refine ⟨.ref a, rfl, a, rfl, ⟨_, SqT.of (s1 _ _ ea)⟩, ?_⟩
    refine for_tup (xs := ps) (fun i σ H' => ∃ v3 vs, σ = [some (.ref a), some (.int m), some (.ref o), v3] ∧ Same H H' ∧ H' o = some (.lst vs) ∧ Paired (PourT H') vs ((row.take i).foldl (pushM m) []).reverse) ⟨none, [], rfl, s1, upd_same, .nil⟩
      (fun i σ H' _ hP => by obtain ⟨_, _, _, sm, _⟩ := hP; exact SqT.of (sm _ _ ea)) (fun i y σ H' hy hP => ?_) fun σ H' hP => ?_
    · obtain ⟨v3, vs, rfl, sm, eo, hvs⟩ := hP
      obtain ⟨p, hp, hyp⟩ := paired_get2 hps hy
      have gp : Good 8 p := good p (List.mem_of_getElem? hp)
      have gtake : ∀ x ∈ row.take i, Good 8 x := fun x hx => good x (List.mem_of_mem_take hx)
      have hR := putR_all (m := m) (row.take i) [] [] (fun x hx => absurd hx List.not_mem_nil) gtake trivial
      generalize hfs : (row.take i).foldl (pushM m) [] = fs at hvs hR
      have htar : (row.take (i + 1)).foldl (pushM m) [] = pushM m fs p := by
        rw [List.take_add_one, hp, List.foldl_append, hfs]
        rfl
      have hlfs : fs.length ≤ 100 := by
        have h1 := hR.2.2.2
        have h2 := take_le row i
        rw [List.length_nil] at h1
        omega
      -- the while
      refine ⟨fun n σ H2 => ∃ v vs fs2 p2, σ = [some (.ref a), some (.int m), some (.ref o), some v] ∧ Same H H2 ∧ H2 o = some (.lst vs) ∧ Paired (PourT H2) vs fs2.reverse ∧ PourT H2 v p2 ∧ Good 8 p2 ∧ (∀ z ∈ fs2, Good 8 z) ∧ fs2.length = n ∧ n ≤ 100 ∧ pushM m fs2 p2 = pushM m fs p,
        ⟨fs.length, y, vs, fs, p, rfl, sm, eo, hvs, hyp.te (TE2.of sm), gp, hR.1, rfl, hlfs, rfl⟩, fun n σ H2 hW => ?_⟩
      obtain ⟨v, vs2, fs2, p2, rfl, sm2, eo2, hvs2, hv, gp2, gfs2, hn, hn100, hpush⟩ := hW
      have hl2 := Paired.length hvs2
      rw [List.length_reverse] at hl2
      refine ⟨.ref o, rfl, o, vs2, rfl, .inl (SqL.of eo2), _, _, rfl, rfl, _, rfl, ?_⟩
      cases fs2 with
      | nil =>
        have e0 : decide ((0 : Int) < ((vs2.length : Nat) : Int)) = false := decide_eq_false (by rw [hl2]; exact Int.lt_irrefl _)
        rw [e0]
        refine iteF (iteF ?_)
        -- found.append(pour)
        refine ⟨.ref o, rfl, .inl ⟨rfl, _, SqL.of eo2⟩, v, rfl, o, _, _, rfl, rfl, eo2, ?_, ?_⟩
        · rw [hl2]
          exact lt_line (Nat.zero_le 0) (by decide)
        · refine ⟨some v, vs2 ++ [v], rfl, same_put sm2 no, upd_same, ?_⟩
          rw [htar, ← hpush]
          have e1 : vs2 = [] := List.eq_nil_of_length_eq_zero hl2
          subst e1
          exact .cons (hv.te (te_put eo2)) .nil
      | cons f fs3 =>
        have hl3 : vs2.length = fs3.length + 1 := hl2
        have e1 : decide ((0 : Int) < ((vs2.length : Nat) : Int)) = true := decide_eq_true (by rw [hl3]; omega)
        rw [e1]
        rw [List.reverse_cons] at hvs2
        obtain ⟨vs4, u, rfl, hvs4, hu⟩ := paired_snoc_inv hvs2
        have gf : Good 8 f := gfs2 f List.mem_cons_self
        have hu0 := hu
        have hv0 := hv
        obtain ⟨b, x1, x2, rfl, eb, ⟨b1, rfl, eb1⟩, _⟩ := hu
        obtain ⟨c, y1, y2, rfl, ec, ⟨c1, rfl, ec1⟩, _⟩ := hv
        refine iteT ?_
        refine ⟨.ref o, rfl, 1, rfl, o, _, -1, .ref b, rfl, rfl, SqL.of eo2, atI_last _ _, b, _, 0, _, rfl, rfl, SqT.of eb, atI_nat (j := 0) rfl, b1, _, rfl, .inl (SqT.of eb1), ?_⟩
        refine ⟨.ref c, rfl, c, _, 0, _, rfl, rfl, SqT.of ec, atI_nat (j := 0) rfl, c1, _, rfl, .inl (SqT.of ec1), ?_, fun l nl => ?_⟩
        · rw [List.append_nil, List.length_append, List.length_map, List.length_map]
          have := gf.short
          have := gp2.short
          exact le_line (m := 100) (by omega) (by decide)
        · refine ⟨l, f.1 ++ p2.1, rfl, .inl (SqL.of (by rw [upd_same, List.append_nil, List.map_append])), ?_, fun t nt => ?_⟩
          · rw [List.length_append]
            have := gf.short
            have := gp2.short
            omega
          · have gj := join_good gf gp2
            have hjl : (uni (f.1 ++ p2.1)).length ≤ 8 := gj.short
            refine ⟨t, _, _, rfl, upd_same, by omega, .int m, rfl, _, _, rfl, rfl, _, rfl, ?_⟩
            generalize hH3 : upd (upd H2 l _) t _ = H3
            have sm3 : Same H2 H3 := by rw [← hH3]; exact (same_upd nl).trans (same_upd nt)
            have eo3 := sm3 _ _ eo2
            by_cases hc : (((uni (f.1 ++ p2.1)).length : Nat) : Int) ≤ m
            · rw [decide_eq_true hc]
              refine iteT ?_
              have hpush2 : pushM m (f :: fs3) p2 = pushM m fs3 (joinM f p2) := by
                show (if ((uni (f.1 ++ p2.1)).length : Int) ≤ m then _ else _) = _
                rw [if_pos hc]
              refine ⟨fun σ' H' => ∃ v vs, σ' = [some (.ref a), some (.int m), some (.ref o), some v] ∧ Same H H' ∧ H' o = some (.lst vs) ∧ Paired (PourT H') vs fs3.reverse ∧ PourT H' v (joinM f p2), fun σ' H' hN => ?_, ?_⟩
              · obtain ⟨v, vs, rfl, q1, q2, q3, q4⟩ := hN
                have hn2 : fs3.length + 1 = n := hn
                exact ⟨fs3.length, by omega, v, vs, fs3, joinM f p2, rfl, q1, q2, q3, q4, gj, fun z hz => gfs2 z (List.mem_cons_of_mem _ hz), rfl, by omega, by rw [← hpush, hpush2]⟩
              · refine ⟨.ref o, rfl, .inl ⟨rfl, _, SqL.of eo3⟩, o, _, .ref b, rfl, rfl, eo3, last_get _ _, ?_⟩
                have tep : TE2 H3 (upd H3 o (HO.lst (vs4 ++ [V.ref b]).dropLast)) := te_put eo3
                have te23 : TE2 H2 (upd H3 o (HO.lst (vs4 ++ [V.ref b]).dropLast)) := (TE2.of sm3).trans tep
                refine ⟨.ref c, rfl, .ref b, .ref c, f, p2, rfl, hu0.te te23, hv0.te te23, gf, gp2, fun H4 v4 sm4 hj => ?_⟩
                refine ⟨v4, vs4, rfl, (same_put (sm2.trans sm3) no).trans sm4, ?_, pours_te (te23.trans (TE2.of sm4)) hvs4, hj⟩
                rw [sm4 _ _ upd_same, List.dropLast_concat]
            · rw [decide_eq_false hc]
              refine iteF ?_
              have hpush2 : pushM m (f :: fs3) p2 = p2 :: f :: fs3 := by
                show (if ((uni (f.1 ++ p2.1)).length : Int) ≤ m then _ else _) = _
                rw [if_neg hc]
              refine ⟨.ref o, rfl, .inl ⟨rfl, _, SqL.of eo3⟩, .ref c, rfl, o, _, _, rfl, rfl, eo3, ?_, ?_⟩
              · rw [hl3]
                have hn2 : fs3.length + 1 = n := hn
                exact lt_line (m := 100) (by omega) (by decide)
              · have te23 : TE2 H2 (upd H3 o (HO.lst ((vs4 ++ [V.ref b]) ++ [V.ref c]))) := (TE2.of sm3).trans (te_put eo3)
                refine ⟨_, _, rfl, same_put (sm2.trans sm3) no, upd_same, ?_⟩
                rw [htar, ← hpush, hpush2, List.reverse_cons, List.reverse_cons]
                exact Paired.snoc (Paired.snoc (pours_te te23 hvs4) (hu0.te te23)) (hv0.te te23)
    · obtain ⟨v3, vs, rfl, sm, eo, hvs⟩ := hP
      rw [hpl, List.take_length] at hvs
      refine ⟨.ref o, rfl, o, _, rfl, .inl ⟨SqL.of eo, fun t nt => ?_⟩⟩
      exact q _ (.ref t) (sm.trans (same_upd nt)) ⟨t, vs, rfl, upd_same, pours_te (te_new nt) hvs⟩
end
end K66
namespace K66
open PySem PySem.Spec PyProof.Rows L2
/-! ## the deal -/
def Dl (H : Hp) (a a0 : Addr) : Prop := ∃ (ns : List Int) (bl : Int), a ≠ a0 ∧ H a = some (.lst [.ref a0, .int bl]) ∧ H a0 = some (.lst (ns.map V.int)) ∧ (∀ n ∈ ns, 0 ≤ n) ∧ ns.length ≤ 48 ∧ 0 ≤ bl
structure Dr (a a0 : Addr) (H H' : Hp) : Prop where
  stay : ∀ (b : Addr) (o : HO), H b = some o → b ≠ a → b ≠ a0 → H' b = some o
  was : Dl H a a0
  dl : Dl H' a a0
theorem Dl.same {H H' : Hp} {a a0 : Addr} (d : Dl H a a0) (sm : Same H H') : Dl H' a a0 := by
  obtain ⟨ns, bl, h1, h2, h3, h4⟩ := d
  exact ⟨ns, bl, h1, sm _ _ h2, sm _ _ h3, h4⟩
theorem Dl.ne {H : Hp} {a a0 : Addr} (d : Dl H a a0) {o : Addr} (no : H o = none) : o ≠ a ∧ o ≠ a0 := by
  obtain ⟨ns, bl, h1, h2, h3, h4⟩ := d
  exact ⟨fun e => (by rw [e, h2] at no; cases no), fun e => (by rw [e, h3] at no; cases no)⟩
theorem Dl.tup {H : Hp} {a a0 : Addr} (d : Dl H a a0) {o : Addr} {xs : List V} (e : H o = some (.tup xs)) : o ≠ a ∧ o ≠ a0 := by
  obtain ⟨ns, bl, h1, h2, h3, h4⟩ := d
  exact ⟨fun z => (by rw [z, h2] at e; cases e), fun z => (by rw [z, h3] at e; cases e)⟩
theorem Dl.put {H : Hp} {a a0 o : Addr} {x : HO} (d : Dl H a a0) (h1 : o ≠ a) (h2 : o ≠ a0) : Dl (upd H o x) a a0 := by
  obtain ⟨ns, bl, h, e1, e2, q⟩ := d
  exact ⟨ns, bl, h, by rw [upd_ne (Ne.symm h1)]; exact e1, by rw [upd_ne (Ne.symm h2)]; exact e2, q⟩
theorem Dr.refl {H : Hp} {a a0 : Addr} (d : Dl H a a0) : Dr a a0 H H := ⟨fun _ _ e _ _ => e, d, d⟩
theorem Dr.trans {H H1 H2 : Hp} {a a0 : Addr} (x : Dr a a0 H H1) (y : Dr a a0 H1 H2) : Dr a a0 H H2 := ⟨fun b o e h1 h2 => y.stay b o (x.stay b o e h1 h2) h1 h2, x.was, y.dl⟩
theorem Dr.same {H H1 H2 : Hp} {a a0 : Addr} (x : Dr a a0 H H1) (y : Same H1 H2) : Dr a a0 H H2 := ⟨fun b o e h1 h2 => y b o (x.stay b o e h1 h2), x.was, x.dl.same y⟩
theorem Dr.of {H H1 : Hp} {a a0 : Addr} (d : Dl H a a0) (y : Same H H1) : Dr a a0 H H1 := (Dr.refl d).same y
theorem Dr.put {H H1 : Hp} {a a0 o : Addr} {x : HO} (d : Dr a a0 H H1) (no : H o = none) : Dr a a0 H (upd H1 o x) :=
  ⟨fun b y e h1 h2 => by rw [upd_ne (ne_of_none e no)]; exact d.stay b y e h1 h2, d.was, d.dl.put (d.was.ne no).1 (d.was.ne no).2⟩
theorem Dr.te {H H' : Hp} {a a0 : Addr} (d : Dr a a0 H H') : TE2 H H' := fun b xs e => d.stay b _ e (d.was.tup e).1 (d.was.tup e).2
theorem Dr.te' {H H0 H' : Hp} {a a0 : Addr} (d : Dr a a0 H H') (te : TE2 H0 H) : TE2 H0 H' := te.trans d.te
/-- what stood free at the start and was laid since stays -/
theorem Dr.own {H H1 H2 : Hp} {a a0 o : Addr} {x : HO} (d : Dr a a0 H1 H2) (dw : Dl H a a0) (no : H o = none) (e : H1 o = some x) : H2 o = some x := d.stay o x e (dw.ne no).1 (dw.ne no).2
/-! ## values that stand still -/
def Okv (H : Hp) (v : V) : Prop := ∃ d : PyData, (∀ K, Dp K H v d) ∧ d.depth ≤ 10 ∧ d.canLay0 = true
theorem Okv.int (H : Hp) (n : Int) : Okv H (.int n) := ⟨.int n, fun _ => .int n, by rw [PyData.depth]; decide, by rw [PyData.canLay0]⟩
theorem PourT.okv {H : Hp} {v : V} {p : Pour} (h : PourT H v p) : Okv H v := ⟨encPour p, fun _ => h.dp, Nat.le_trans (depth_encPour p) (by decide), lay_encPour p⟩
theorem RowT.okv {H : Hp} {v : V} {r : Row} (h : RowT H v r) : Okv H v := ⟨encRow r, fun _ => h.dp, Nat.le_trans (depth_encRow r) (by decide), lay_encRow r⟩
theorem okv_all {H : Hp} : ∀ {xs : List V}, (∀ x ∈ xs, Okv H x) → ∃ ds : List PyData, ds.length = xs.length ∧ (∀ K, DpAll K H xs ds) ∧ PyData.depthAll ds ≤ 10 ∧ PyData.canLayAll0 ds = true
  | [], _ => ⟨[], rfl, fun _ => .nil, by rw [PyData.depthAll]; decide, by rw [PyData.canLayAll0]⟩
  | x :: xs, h => by
    obtain ⟨d, h1, h2, h3⟩ := h x List.mem_cons_self
    obtain ⟨ds, q0, q1, q2, q3⟩ := okv_all (xs := xs) fun y hy => h y (List.mem_cons_of_mem _ hy)
    refine ⟨d :: ds, by simp [q0], fun K => .cons (h1 K) (q1 K), ?_, ?_⟩
    · rw [PyData.depthAll]
      exact Nat.max_le.mpr ⟨h2, q2⟩
    · rw [PyData.canLayAll0, h3, q3]
      rfl
theorem shaped_list {ds : List PyData} (h2 : PyData.depthAll ds ≤ 10) (h3 : PyData.canLayAll0 ds = true) : SeqAt.shaped (.list ds) = true :=
  shaped_of (n := 11) (by rw [PyData.canLay0]; exact h3) (by rw [PyData.depth]; omega) (by decide)
theorem neNil {K : PySem.W.Frag} {H : Hp} {a o : Addr} {xs : List V} {Q : VK} (e : H a = some (.lst xs)) (eo : H o = some (.lst [])) (ok : ∀ x ∈ xs, Okv H x) (q : Q (.bl (decide (xs ≠ []))) H) : rNeD K (.ref a) (.ref o) H Q := by
  obtain ⟨ds, q0, q1, q2, q3⟩ := okv_all ok
  refine ⟨.list ds, .list [], .lst (SqL.of e) (q1 K), .lst (SqL.of eo) .nil, shaped_list q2 q3, shaped_list (by rw [PyData.depthAll]; decide) (by rw [PyData.canLayAll0]), ?_⟩
  cases xs with
  | nil =>
    cases ds with
    | nil => rw [PyData.eqv, PyData.eqvAll]; exact q
    | cons _ _ => cases q0
  | cons x r =>
    cases ds with
    | nil => cases q0
    | cons _ _ => rw [PyData.eqv, PyData.eqvAll]; exact q
theorem eqNil {K : PySem.W.Frag} {H : Hp} {a o : Addr} {xs : List V} {Q : VK} (e : H a = some (.lst xs)) (eo : H o = some (.lst [])) (ok : ∀ x ∈ xs, Okv H x) (q : Q (.bl (decide (xs = []))) H) : rEqD K (.ref a) (.ref o) H Q := by
  obtain ⟨ds, q0, q1, q2, q3⟩ := okv_all ok
  refine ⟨.list ds, .list [], .lst (SqL.of e) (q1 K), .lst (SqL.of eo) .nil, shaped_list q2 q3, shaped_list (by rw [PyData.depthAll]; decide) (by rw [PyData.canLayAll0]), ?_⟩
  cases xs with
  | nil =>
    cases ds with
    | nil => rw [PyData.eqv, PyData.eqvAll]; exact q
    | cons _ _ => cases q0
  | cons x r =>
    cases ds with
    | nil => cases q0
    | cons _ _ => rw [PyData.eqv, PyData.eqvAll]; exact q
theorem okv_ints {H : Hp} {ns : List Int} : ∀ x ∈ ns.map V.int, Okv H x := fun x hx => by
  obtain ⟨n, _, rfl⟩ := List.mem_map.mp hx
  exact Okv.int H n
theorem put_put {H : Hp} {a : Addr} {x y : HO} : upd (upd H a x) a y = upd H a y := by
  funext b
  unfold upd
  split <;> rfl
abbrev nDraw : List Str := ["_law_script", "_law_salt", "_law_cell", "_law_cells", "_law_blend"]
theorem scDraw : FnScope nDraw ["_law_script", "_law_salt"] (defScope dDraw) := ⟨rfl, rfl, rfl, by decide +kernel, rfl, by decide +kernel, by decide +kernel⟩
abbrev nAny : List Str := ["_law_deal", "_law_bound", "_law_rest"]
theorem scAny : FnScope nAny ["_law_deal", "_law_bound"] (defScope dAny) := ⟨rfl, rfl, rfl, by decide +kernel, rfl, by decide +kernel, by decide +kernel⟩
theorem last_at {xs : List V} {x : V} (h : xs.getLast? = some x) : atI xs (-1) = some x := by
  have h2 : xs = xs.dropLast ++ [x] := by
    obtain ⟨ys, e⟩ := List.getLast?_eq_some_iff.mp h
    rw [e, List.dropLast_concat]
  rw [h2]
  exact atI_last _ _
section
variable {P : Program} {w : World} {K : PySem.W.Frag} {mg : Str → Option Value} {base : Heap}
/-! ### _law_any -/
def spAny : Sp := fun vs H Q _ => ∃ (a a0 : Addr) (b : Int), vs = [.ref a, .int b] ∧ Dl H a a0 ∧ 0 < b ∧ b ≤ 1000 ∧ ∀ (H' : Hp) (r : Int), Dr a a0 H H' → 0 ≤ r → r < b → Q (.int r) H'
theorem ok_any {f : Addr} {fd : FuncData} {k : Nat} (F : Fun K "_law_any" "_law_any" dAny f fd) (mi : mg "int" = none) : FnOk P w K mg base CX0 (k + 1) f fd ["_law_deal", "_law_bound"] spAny := by
  refine F.ok scAny (fun vs H Q E h => ?_) (fun cdv A outer s H vs Q E hr h => ?_)
  · obtain ⟨a, a0, b, rfl, _⟩ := h
    rfl
  · obtain ⟨a, a0, b, rfl, hd, hb, hb2, q⟩ := h
    refine ⟨_, pss_cons (ps_while PassesOwn.never (PW.pt (pw_and (pt_cmpR (op_neD hr.units) (pe_ix ix_list (pv 0) pe_int (fun _ _ => rfl)) (pe_lst pa_nil) (nomark _))
          (pw_and1 (pt_cmpR op_eq (pe_ix ix_list (pe_ix ix_list (pv 0) pe_int (fun _ _ => rfl)) (pe_un un_neg pe_int) (fun _ _ => rfl)) pe_int (nomark _)))))
        (pss_one (ps_expr (pe_bm0 PySem.F.plainAttrs_list PySem.F.slot_list_pop PySem.F.type_list_pop mt_pop (pe_ix ix_list (pv 0) pe_int (fun _ _ => rfl))))))
      (pss_cons (ps_if (pt_cmpR (op_neD hr.units) (pe_ix ix_list (pv 0) pe_int (fun _ _ => rfl)) (pe_lst pa_nil) (nomark _))
        (pss_cons (ps_set (i := 2) scAny.nd rfl (.inl rfl) (pe_callTy call_int1 (by rfl) mi boot_int' (pa_cons (pe_bm0 PySem.F.plainAttrs_list PySem.F.slot_list_pop PySem.F.type_list_pop mt_pop (pe_ix ix_list (pv 0) pe_int (fun _ _ => rfl))) pa_nil)))
          (pss_cons (ps_expr (pe_bm PySem.F.plainAttrs_list PySem.F.slot_list_append PySem.F.type_list_append mt_append (pe_ix ix_list (pv 0) pe_int (fun _ _ => rfl)) (pa_cons (pe_op op_fdivN (pv 2) (pv 1)) pa_nil)))
            (pss_one (ps_ret (pe_op op_modN (pv 2) (pv 1)))))) pss_nil)
      (pss_cons (ps_asg (pe_op op_modN (pe_callTy call_int1 (by rfl) mi boot_int' (pa_cons (pe_op op_add (pe_op op_mul (pe_ix ix_list (pv 0) pe_int (fun _ _ => rfl)) pe_int) pe_int) pa_nil)) pe_int) (pg_sub (pv 0) pe_int set_list))
      (pss_one (ps_ret (pe_op op_modN (pe_callTy call_int1 (by rfl) mi boot_int' (pa_cons (pe_op op_fdivN (pe_ix ix_list (pv 0) pe_int (fun _ _ => rfl)) pe_int) pa_nil)) (pv 1)))))), ?_⟩
    refine ⟨fun n σ H' => ∃ (ns : List Int) (bl : Int), σ = [some (.ref a), some (.int b), none] ∧ Dr a a0 H H' ∧ H' a = some (.lst [.ref a0, .int bl]) ∧ H' a0 = some (.lst (ns.map V.int)) ∧ (∀ n ∈ ns, 0 ≤ n) ∧ ns.length ≤ 48 ∧ 0 ≤ bl ∧ ns.length = n, ?_, fun n σ H' hW => ?_⟩
    · obtain ⟨ns, bl, h1, h2, h3, h4, h5, h6⟩ := hd
      exact ⟨ns.length, ns, bl, rfl, Dr.refl ⟨ns, bl, h1, h2, h3, h4, h5, h6⟩, h2, h3, h4, h5, h6, rfl⟩
    · obtain ⟨ns, bl, rfl, dr, e1, e2, h4, h5, h6, hn⟩ := hW
      refine ⟨.ref a, rfl, a, _, 0, .ref a0, rfl, rfl, SqL.of e1, atI_nat (j := 0) rfl, Nat.zero_le _, fun o no => ?_⟩
      have sm : Same H' (upd H' o (.lst [])) := same_upd no
      refine neNil (sm _ _ e2) upd_same okv_ints ?_
      have drS := dr.same sm
      cases hg : ns.getLast? with
      | none =>
        have en : ns = [] := List.getLast?_eq_none_iff.mp hg
        subst en
        refine ⟨_, rfl, iteF (iteF ?_)⟩
        refine ⟨.ref a, rfl, a, _, 0, .ref a0, rfl, rfl, SqL.of (sm _ _ e1), atI_nat (j := 0) rfl, Nat.zero_le _, fun o2 no2 => ?_⟩
        have sm2 := sm.trans (same_upd no2 (o := .lst []))
        refine neNil (sm2 _ _ e2) upd_same okv_ints ⟨_, rfl, iteF ?_⟩
        refine ⟨.ref a, rfl, a, _, 1, .int bl, rfl, rfl, SqL.of (sm2 _ _ e1), atI_nat (j := 1) rfl, bl, 40693, rfl, rfl, .inr ⟨by decide, by decide⟩, _, 71, rfl, rfl, .inl ⟨_, rfl, _, 2147483647, rfl, rfl, (show (2147483647 : Int) ≠ 0 by decide), .ref a, rfl, ?_⟩⟩
        refine ⟨a, _, 1, 1, rfl, rfl, sm2 _ _ e1, rfl, ?_⟩
        have hbl : 0 ≤ (bl * 40693 + 71).fmod 2147483647 := Int.fmod_nonneg_of_pos _ (by decide)
        have hna : a ≠ a0 := by
          obtain ⟨_, _, z, _⟩ := hd
          exact z
        refine ⟨.ref a, rfl, a, _, 1, .int ((bl * 40693 + 71).fmod 2147483647), rfl, rfl, SqL.of upd_same, atI_nat (j := 1) rfl, _, 64, rfl, rfl, ⟨by decide, by decide⟩, .inl ⟨_, rfl, .int b, rfl, _, b, rfl, rfl, (show b ≠ 0 by omega), ?_⟩⟩
        refine q _ _ ?_ (Int.fmod_nonneg_of_pos _ hb) (Int.fmod_lt_of_pos _ hb)
        have d2 := dr.same sm2
        exact ⟨fun c x e h1 h2 => by rw [upd_ne h1]; exact d2.stay c x e h1 h2, hd, [], (bl * 40693 + 71).fmod 2147483647, hna, upd_same, by rw [upd_ne (Ne.symm hna)]; exact sm2 _ _ e2, fun n hn => absurd hn List.not_mem_nil, Nat.zero_le _, hbl⟩
      | some z =>
        have hne : ns ≠ [] := fun e => by rw [e] at hg; cases hg
        obtain ⟨ms, rfl⟩ := List.getLast?_eq_some_iff.mp hg
        have hne2 : (ms ++ [z]).map V.int ≠ [] := by simp
        have hna : a ≠ a0 := by
          obtain ⟨_, _, z, _⟩ := hd
          exact z
        rw [decide_eq_true hne2]
        refine ⟨_, rfl, iteT ?_⟩
        refine ⟨.ref a, rfl, a, _, 0, .ref a0, rfl, rfl, SqL.of (sm _ _ e1), atI_nat (j := 0) rfl, 1, rfl, a0, _, -1, .int z, rfl, rfl, SqL.of (sm _ _ e2), ?_, rfl, ?_⟩
        · rw [List.map_append]
          exact atI_last _ _
        · have hz0 : 0 ≤ z := h4 z (List.mem_append_right _ List.mem_cons_self)
          by_cases hz : z = 0
          · subst hz
            refine ⟨_, rfl, iteT ?_⟩
            refine ⟨fun σ H' => ∃ (bl : Int), σ = [some (.ref a), some (.int b), none] ∧ Dr a a0 H H' ∧ H' a = some (.lst [.ref a0, .int bl]) ∧ H' a0 = some (.lst (ms.map V.int)) ∧ 0 ≤ bl, fun σ' H' hN => ?_, ?_⟩
            · obtain ⟨bl, rfl, g1, g2, g3, g4⟩ := hN
              refine ⟨ms.length, ?_, ms, bl, rfl, g1, g2, g3, fun n hn => h4 n (List.mem_append_left _ hn), ?_, g4, rfl⟩
              · rw [← hn, List.length_append]
                exact Nat.lt_succ_self _
              · rw [List.length_append] at h5
                omega
            · refine ⟨.ref a, rfl, a, _, 0, .ref a0, rfl, rfl, SqL.of (sm _ _ e1), atI_nat (j := 0) rfl, .inl ⟨rfl, _, SqL.of (sm _ _ e2)⟩, a0, _, .int 0, rfl, rfl, sm _ _ e2, ?_, ?_⟩
              · rw [List.map_append]
                exact last_get _ _
              · have e3 : (upd (upd H' o (.lst [])) a0 (.lst ((ms ++ [0]).map V.int).dropLast)) a0 = some (.lst (ms.map V.int)) := by
                  rw [upd_same, List.map_append]
                  show some (HO.lst ((ms.map V.int ++ [V.int 0]).dropLast)) = _
                  rw [List.dropLast_concat]
                have e4 : (upd (upd H' o (.lst [])) a0 (.lst ((ms ++ [0]).map V.int).dropLast)) a = some (.lst [.ref a0, .int bl]) := by
                  rw [upd_ne hna]
                  exact sm _ _ e1
                refine ⟨bl, rfl, ⟨fun c x e h1 h2 => by rw [upd_ne h2]; exact drS.stay c x e h1 h2, hd, ms, bl, hna, e4, e3, fun n hn => h4 n (List.mem_append_left _ hn), ?_, h6⟩, e4, e3, h6⟩
                rw [List.length_append] at h5
                omega
          · have hzz : decide (V.int z = V.int 0) = false := decide_eq_false fun e => hz (V.int.inj e)
            rw [hzz]
            refine ⟨_, rfl, iteF ?_⟩
            refine ⟨.ref a, rfl, a, _, 0, .ref a0, rfl, rfl, SqL.of (sm _ _ e1), atI_nat (j := 0) rfl, Nat.zero_le _, fun o2 no2 => ?_⟩
            have sm2 := sm.trans (same_upd no2 (o := .lst []))
            refine neNil (sm2 _ _ e2) upd_same okv_ints ?_
            rw [decide_eq_true hne2]
            refine ⟨_, rfl, iteT ?_⟩
            have d2 := dr.same sm2
            generalize hH2 : upd (upd H' o (.lst [])) o2 (.lst []) = H2 at sm2 d2
            have f1 := sm2 _ _ e1
            have f2 := sm2 _ _ e2
            refine ⟨.ref a, rfl, a, _, 0, .ref a0, rfl, rfl, SqL.of f1, atI_nat (j := 0) rfl, .inl ⟨rfl, _, SqL.of f2⟩, a0, _, .int z, rfl, rfl, f2, ?_, .inl ⟨_, rfl, ?_⟩⟩
            · rw [List.map_append]
              exact last_get _ _
            · have e3 : (upd H2 a0 (.lst ((ms ++ [z]).map V.int).dropLast)) a0 = some (.lst (ms.map V.int)) := by
                rw [upd_same, List.map_append]
                show some (HO.lst ((ms.map V.int ++ [V.int z]).dropLast)) = _
                rw [List.dropLast_concat]
              have e4 : (upd H2 a0 (.lst ((ms ++ [z]).map V.int).dropLast)) a = some (.lst [.ref a0, .int bl]) := by
                rw [upd_ne hna]
                exact f1
              refine ⟨.ref a, rfl, a, _, 0, .ref a0, rfl, rfl, SqL.of e4, atI_nat (j := 0) rfl, .inl ⟨rfl, _, SqL.of e3⟩, .int z, rfl, .int b, rfl, _, _, rfl, rfl, ⟨by omega, by omega⟩, a0, _, .int (z.fdiv b), rfl, rfl, e3, ?_, ?_⟩
              · rw [List.length_append] at h5
                rw [List.length_map]
                exact lt_line (m := 100) (by omega) (by decide)
              · refine ⟨.int z, rfl, .int b, rfl, _, _, rfl, rfl, by omega, ?_⟩
                refine q _ _ ?_ (Int.fmod_nonneg_of_pos _ hb) (Int.fmod_lt_of_pos _ hb)
                refine ⟨fun c x e h1 h2 => by rw [upd_ne h2, upd_ne h2]; exact d2.stay c x e h1 h2, hd, ms ++ [z.fdiv b], bl, hna, by rw [upd_ne hna]; exact e4, by rw [upd_same, List.map_append]; rfl, fun n hn => ?_, ?_, h6⟩
                · rcases List.mem_append.mp hn with hn | hn
                  · exact h4 n (List.mem_append_left _ hn)
                  · rw [List.mem_singleton.mp hn]
                    exact Int.fdiv_nonneg hz0 (by omega)
                · rw [List.length_append] at h5 ⊢
                  exact h5
end
end K66
namespace K66
open PySem PySem.Spec PyProof.Rows L2
abbrev nOf : List Str := ["_law_deal", "_law_some"]
theorem scOf : FnScope nOf ["_law_deal", "_law_some"] (defScope dOf) := ⟨rfl, rfl, rfl, by decide +kernel, rfl, by decide +kernel, by decide +kernel⟩
abbrev nMixed : List Str := ["_law_deal", "_law_some", "_law_left", "_law_found"]
theorem scMixed : FnScope nMixed ["_law_deal", "_law_some"] (defScope dMixed) := ⟨rfl, rfl, rfl, by decide +kernel, rfl, by decide +kernel, by decide +kernel⟩
theorem idx_of {n : Nat} {r : Int} (h0 : 0 ≤ r) (h1 : r < (n : Int)) : seqIndex? r n = some r.toNat := seqIndex_of h0 h1
theorem atI_of {α : Type} {xs : List α} {r : Int} {x : α} (h0 : 0 ≤ r) (h : xs[r.toNat]? = some x) : atI xs r = some x := by
  have : r = ((r.toNat : Nat) : Int) := by omega
  rw [this]
  exact atI_nat h
theorem perm_eraseIdx {α : Type} : ∀ {l : List α} {k : Nat} {y : α}, l[k]? = some y → (y :: l.eraseIdx k).Perm l
  | [], _, _, h => by cases h
  | x :: l, 0, y, h => by
    cases h
    exact List.Perm.refl _
  | x :: l, k + 1, y, h => by
    have h' : l[k]? = some y := h
    exact (List.Perm.swap x y _).trans ((perm_eraseIdx h').cons x)
/-- a promise about any -/
structure AnyP (P : Program) (w : World) (K : PySem.W.Frag) (mg : Str → Option Value) (base : Heap) (k : Nat) (fA : Addr) (fdA : FuncData) : Prop where
  F : Fun K "_law_any" "_law_any" dAny fA fdA
  G : FnOk P w K mg base CX0 k fA fdA ["_law_deal", "_law_bound"] spAny
  b : Binds K fdA ["_law_deal", "_law_bound"] []
  g : mg "_law_any" = some (.ref fA)
section
variable {P : Program} {w : World} {K : PySem.W.Frag} {mg : Str → Option Value} {base : Heap}
/-! ### _law_of -/
def spOf : Sp := fun vs H Q _ => ∃ (a a0 l : Addr) (ns : List Int), vs = [.ref a, .ref l] ∧ Dl H a a0 ∧ l ≠ a ∧ l ≠ a0 ∧ H l = some (.lst (ns.map V.int)) ∧ ns ≠ [] ∧ ns.length ≤ 1000 ∧ ∀ (H' : Hp) (r : Int), Dr a a0 H H' → r ∈ ns → Q (.int r) H'
theorem ok_of {f fA : Addr} {fd fdA : FuncData} (F : Fun K "_law_of" "_law_of" dOf f fd) (A1 : AnyP P w K mg base 1 fA fdA) (ml : mg "len" = none) : FnOk P w K mg base CX0 2 f fd ["_law_deal", "_law_some"] spOf := by
  refine F.ok scOf (fun vs H Q E h => ?_) (fun cdv A outer s H vs Q E hr h => ?_)
  · obtain ⟨a, a0, l, ns, rfl, _⟩ := h
    rfl
  · obtain ⟨a, a0, l, ns, rfl, hd, l1, l2, el, hne, hlen, q⟩ := h
    refine ⟨_, pss_one (ps_ret (pe_ix ix_list (pv 1) (pe_call A1.G hr (by rfl) A1.g A1.F.kp A1.b .nil pass0 (pa_cons (pv 0) (pa_cons (pe_callB call_len_seq (by rfl) ml boot_len' (pa_cons (pv 1) pa_nil)) pa_nil))) (fun _ _ => rfl))), ?_⟩
    have hpos : 0 < ns.length := List.length_pos_iff.mpr hne
    refine ⟨.ref l, rfl, .ref a, rfl, .ref l, rfl, l, _, rfl, .inl (SqL.of el), a, a0, _, rfl, hd, ?_, ?_, fun H' r dr h0 h1 => ?_⟩
    · rw [List.length_map]; omega
    · rw [List.length_map]; omega
    · rw [List.length_map] at h1
      have hk : r.toNat < ns.length := by omega
      have ek : ns[r.toNat]? = some ns[r.toNat] := List.getElem?_eq_getElem hk
      refine ⟨l, _, r, .int ns[r.toNat], rfl, rfl, SqL.of (dr.stay _ _ el l1 l2), atI_of h0 (by rw [List.getElem?_map, ek]; rfl), ?_⟩
      exact q _ _ dr (List.getElem_mem hk)
/-! ### _law_mixed -/
def spMixed : Sp := fun vs H Q _ => ∃ (a a0 p : Addr) (xs : List V), vs = [.ref a, .ref p] ∧ Dl H a a0 ∧ (H p = some (.lst xs) ∨ H p = some (.tup xs)) ∧ (∀ x ∈ xs, ∀ H', TE2 H H' → Okv H' x) ∧ xs.length ≤ 1000 ∧
  ∀ (H' : Hp) (l : Addr) (ys : List V), Dr a a0 H H' → H l = none → H' l = some (.lst ys) → ys.Perm xs → Q (.ref l) H'
theorem ok_mixed {f fA : Addr} {fd fdA : FuncData} (F : Fun K "_law_mixed" "_law_mixed" dMixed f fd) (A1 : AnyP P w K mg base 1 fA fdA) (ml : mg "len" = none) (mli : mg "list" = none) : FnOk P w K mg base CX0 2 f fd ["_law_deal", "_law_some"] spMixed := by
  refine F.ok scMixed (fun vs H Q E h => ?_) (fun cdv A outer s H vs Q E hr h => ?_)
  · obtain ⟨a, a0, p, xs, rfl, _⟩ := h
    rfl
  · obtain ⟨a, a0, p, xs, rfl, hd, hp, hok, hlen, q⟩ := h
    refine ⟨_, pss_cons (ps_par (i := 2) (j := 3) rfl scMixed.nd rfl rfl (by decide) rfl rfl (pa_cons (pe_callTy call_list_of (by rfl) mli boot_list' (pa_cons (pv 1) pa_nil)) (pa_cons (pe_lst pa_nil) pa_nil)) (by rfl))
      (pss_cons (ps_while PassesOwn.never (pt_cmpR (op_neD hr.units) (pv 2) (pe_lst pa_nil) (nomark _))
        (pss_one (ps_expr (pe_bm PySem.F.plainAttrs_list PySem.F.slot_list_append PySem.F.type_list_append mt_append (pv 3) (pa_cons
          (pe_bm PySem.F.plainAttrs_list PySem.F.slot_list_pop PySem.F.type_list_pop mt_popAt (pv 2) (pa_cons
            (pe_call A1.G hr (by rfl) A1.g A1.F.kp A1.b .nil pass0 (pa_cons (pv 0) (pa_cons (pe_callB call_len_seq (by rfl) ml boot_len' (pa_cons (pv 2) pa_nil)) pa_nil))) pa_nil)) pa_nil)))))
      (pss_one (ps_ret (pv 3)))), ?_⟩
    refine ⟨.ref p, rfl, p, xs, rfl, hp.elim (fun e => .inl (SqL.of e)) (fun e => .inr (SqT.of e)), fun L nL => ⟨Nat.zero_le _, fun o no => ?_⟩⟩
    refine ⟨_, _, rfl, ?_⟩
    have noH : H o = none := by
      have := no
      by_cases e : o = L
      · subst e; exact nL
      · rw [upd_ne e] at this; exact this
    have hoL : L ≠ o := fun e => by rw [← e, upd_same] at no; cases no
    have sm0 : Same H (upd (upd H L (.lst xs)) o (.lst [])) := (same_upd nL).trans (same_upd no)
    refine ⟨fun n σ H' => ∃ (left found : List V), σ = [some (.ref a), some (.ref p), some (.ref L), some (.ref o)] ∧ Dr a a0 H H' ∧ H' L = some (.lst left) ∧ H' o = some (.lst found) ∧ (found ++ left).Perm xs ∧ left.length = n,
      ⟨xs.length, xs, [], rfl, Dr.of hd sm0, by rw [upd_ne hoL]; exact upd_same, upd_same, List.Perm.refl _, rfl⟩, fun n σ H' hW => ?_⟩
    obtain ⟨left, found, rfl, dr, eL, eo, hp2, hn⟩ := hW
    have hmem : ∀ x ∈ left, x ∈ xs := fun x hx => hp2.mem_iff.mp (List.mem_append_right _ hx)
    refine ⟨.ref L, rfl, Nat.zero_le _, fun t nt => ?_⟩
    have smt := same_upd nt (o := .lst [])
    have drt := dr.same smt
    refine neNil (smt _ _ eL) upd_same (fun x hx => hok x (hmem x hx) _ drt.te) ⟨_, rfl, ?_⟩
    cases left with
    | nil =>
      refine iteF ⟨.ref o, rfl, ?_⟩
      rw [List.append_nil] at hp2
      exact q _ o _ drt noH (smt _ _ eo) hp2
    | cons y0 left =>
      refine iteT ⟨fun σ H' => ∃ (k : Nat) (y : V), k < (y0 :: left).length ∧ (y0 :: left)[k]? = some y ∧ σ = [some (.ref a), some (.ref p), some (.ref L), some (.ref o)] ∧ Dr a a0 H H' ∧ H' L = some (.lst ((y0 :: left).eraseIdx k)) ∧ H' o = some (.lst (found ++ [y])), fun σ' H' hN => ?_, ?_⟩
      · obtain ⟨k, y, hk, hy, rfl, g1, g2, g3⟩ := hN
        refine ⟨((y0 :: left).eraseIdx k).length, ?_, _, _, rfl, g1, g2, g3, ?_, rfl⟩
        · rw [← hn, List.length_eraseIdx_of_lt hk]
          exact Nat.sub_lt (Nat.succ_pos _) Nat.one_pos
        · refine List.Perm.trans ?_ hp2
          rw [List.append_assoc]
          refine List.Perm.append_left found ?_
          exact perm_eraseIdx hy
      · generalize hH1 : upd H' t (.lst []) = H1 at smt drt
        have hlf : found.length + (y0 :: left).length = xs.length := by rw [← hp2.length_eq, List.length_append]
        have hlc : (y0 :: left).length = left.length + 1 := rfl
        refine ⟨.ref o, rfl, .inl ⟨rfl, _, SqL.of (smt _ _ eo)⟩, .ref L, rfl, .inl ⟨rfl, _, SqL.of (smt _ _ eL)⟩, .ref a, rfl, .ref L, rfl, L, _, rfl, .inl (SqL.of (smt _ _ eL)), a, a0, _, rfl, drt.dl, by omega, by omega, fun H2 r dr2 h0 h1 => ?_⟩
        have eL2 : H2 L = some (.lst (y0 :: left)) := dr2.own hd nL (smt _ _ eL)
        have eo2 : H2 o = some (.lst found) := dr2.own hd noH (smt _ _ eo)
        have hk : r.toNat < (y0 :: left).length := by omega
        have ek : (y0 :: left)[r.toNat]? = some (y0 :: left)[r.toNat] := List.getElem?_eq_getElem hk
        refine ⟨L, _, r, r.toNat, _, rfl, rfl, eL2, by omega, by omega, idx_of h0 h1, ek, o, _, _, rfl, rfl, by rw [upd_ne (Ne.symm hoL)]; exact eo2, lt_line (m := 1000) (by omega) (by decide), ?_⟩
        refine ⟨r.toNat, _, hk, ek, rfl, ((drt.trans dr2).put nL).put noH, ?_, upd_same⟩
        rw [upd_ne hoL]
        exact upd_same
/-! ### _law_draw -/
def spDraw (K : PySem.W.Frag) : Sp := fun vs H Q _ => ∃ (p : Addr) (ks : List Int), vs = [.ref p, .int 66] ∧ SqL K H p (ks.map V.int) ∧ ∀ (H' : Hp) (a a0 : Addr), Same H H' → Dl H' a a0 → Q (.ref a) H'
theorem cut_ints (ks : List Int) (lo hi : Option Int) : ∃ ms : List Int, cutV (ks.map V.int) lo hi = ms.map V.int := by
  unfold cutV
  rw [List.length_map]
  exact ⟨_, by rw [← List.map_drop, ← List.map_take]⟩
theorem cut48 (xs : List V) : (cutV xs none (some 48)).length ≤ 48 := by
  unfold cutV
  rw [HT.sIx_none, List.length_take]
  have : HT.sIx xs.length xs.length (some ((48 : Nat) : Int)) = min 48 xs.length := HT.sIx_nat _ _ _
  have e : (some ((48 : Nat) : Int)) = some (48 : Int) := rfl
  rw [e] at this
  rw [this]
  omega
theorem ok_draw {f : Addr} {fd : FuncData} {k : Nat} (F : Fun K "_law_draw" "_law_draw" dDraw f fd) (mi : mg "int" = none) (ma : mg "abs" = none) : FnOk P w K mg base CX0 (k + 1) f fd ["_law_script", "_law_salt"] (spDraw K) := by
  refine F.ok scDraw (fun vs H Q E h => ?_) (fun cdv A outer s H vs Q E hr h => ?_)
  · obtain ⟨p, ks, rfl, _⟩ := h
    rfl
  · obtain ⟨p, ks, rfl, ep, q⟩ := h
    refine ⟨_, pss_cons (ps_setLc (i := 3) (own := [("_law_cell", 2)]) (g := gName 2) (tt := tYes) rfl scDraw.nd rfl rfl (by rfl) (pi_list (pe_slice sl_list (pv 0) po_none (po_some pe_int)))
          (blkOk_by (N := nDraw) (sc := defScope dDraw) (by decide +kernel)) (fun _ _ _ _ _ => pg_name (i := 2) scDraw.nd rfl (Or.inl rfl)) (fun _ _ _ _ _ => pts_nil)
          (fun _ _ _ _ _ => pe_callB call_abs (by rfl) ma boot_abs' (pa_cons (pe_callTy call_int1 (by rfl) mi boot_int' (pa_cons (pv 2) pa_nil)) pa_nil)))
      (pss_cons (ps_set (i := 4) scDraw.nd rfl (.inl rfl) (pe_op op_add pe_int (pe_op op_mul pe_int (pv 1))))
      (pss_cons (ps_for PassesOwn.never rfl (pi_list (pv 3)) (pg_name (i := 2) scDraw.nd rfl (.inl rfl))
        (pss_one (ps_set (i := 4) scDraw.nd rfl (.inl rfl) (pe_op op_modN (pe_callTy call_int1 (by rfl) mi boot_int' (pa_cons (pe_op op_add (pe_op op_add (pe_op op_mul (pv 4) pe_int) (pe_op op_modN (pv 2) pe_int)) pe_int) pa_nil)) pe_int))))
      (pss_one (ps_ret (pe_lst (pa_cons (pe_revL (pe_lc (own := [("_law_cell", 2)]) (g := gName 2) rfl scDraw.nd (pi_list (pv 3))
          (blkOk_by (N := nDraw) (sc := defScope dDraw) (by decide +kernel)) (fun _ _ _ _ _ => pg_name (i := 2) scDraw.nd rfl (Or.inl rfl)) (fun _ _ _ _ _ => pts_one (pt_cmpR (r := rI0 fun i j => .bl (decide (j ≤ i))) op_ge (pv 2) (pe_op (r := rI CPow fun i j => .int (i ^ j.toNat)) op_pow pe_int pe_int) (nomark _)))
          (fun _ _ _ _ _ => pv 2))) (pa_cons (pv 4) pa_nil))))))), ?_⟩
    obtain ⟨ms, hms⟩ := cut_ints ks none (some 48)
    have hl48 := cut48 (ks.map V.int)
    rw [hms, List.length_map] at hl48
    refine ⟨.ref p, rfl, 48, rfl, p, _, rfl, ep, fun l nl => ?_⟩
    rw [hms]
    have sm1 : Same H (upd H l (.lst (ms.map V.int))) := same_upd nl
    refine ⟨l, rfl, ⟨_, SqL.of upd_same⟩, fun D hD => ?_⟩
    have el1 : (upd H l (.lst (ms.map V.int))) l = some (.lst (ms.map V.int)) := upd_same
    generalize upd H l (.lst (ms.map V.int)) = H1 at sm1 hD el1
    refine lc_list (K := K) (a := l) (xs := ms.map V.int) (fun i H' => Same H1 H' ∧ ∃ ns : List Int, H' D = some (.lst (ns.map V.int)) ∧ (∀ n ∈ ns, 0 ≤ n) ∧ ns.length = i) ⟨same_upd hD, [], upd_same, (fun n hn => absurd hn List.not_mem_nil), rfl⟩ (fun i H' hi hP => SqL.of (hP.1 _ _ el1)) (fun i z H' hz hP => ?_) fun H' hP => ?_
    · obtain ⟨sm, ns, eD, h0, hn⟩ := hP
      obtain ⟨n, hnn, rfl⟩ := map_some hz
      have hi : i < ms.length := (List.getElem?_eq_some_iff.mp hnn).1
      refine ⟨rfl, tYes_ok (iteT ?_)⟩
      refine ⟨.int n, rfl, .inl ⟨n, rfl, n, rfl, _, eD, ?_, same_put sm hD, ns ++ [if n < 0 then -n else n], ?_, fun m hm => ?_, ?_⟩⟩
      · rw [List.length_map]
        exact lt_line (m := 100) (by omega) (by decide)
      · rw [upd_same, List.map_append]
        rfl
      · rcases List.mem_append.mp hm with hm | hm
        · exact h0 m hm
        · rw [List.mem_singleton.mp hm]
          split <;> omega
      · rw [List.length_append, hn]
        rfl
    · obtain ⟨sm, ns, eD, h0, hn⟩ := hP
      rw [List.length_map] at hn
      refine ⟨.int 66, rfl, _, _, rfl, rfl, .inl ⟨by decide, by decide⟩, _, _, rfl, rfl, ?_⟩
      refine ⟨.ref D, rfl, D, rfl, ⟨_, SqL.of eD⟩, ?_⟩
      refine for_list (xs := ns.map V.int) (fun i σ H2 => ∃ c v, σ = [some (.ref p), some (.int 66), c, some (.ref D), some (.int v)] ∧ H2 = H' ∧ 0 ≤ v) ⟨none, _, rfl, rfl, by decide⟩ (fun i σ H2 _ hP => by obtain ⟨_, _, _, rfl, _⟩ := hP; exact SqL.of eD) (fun i y σ H2 hy hP => ?_) fun σ H2 hP => ?_
      · obtain ⟨c, v, rfl, rfl, hv⟩ := hP
        obtain ⟨n, hnn, rfl⟩ := map_some hy
        refine ⟨.int v, rfl, _, _, rfl, rfl, .inr ⟨by decide, by decide⟩, .int n, rfl, _, _, rfl, rfl, (show (2147483549 : Int) ≠ 0 by decide), _, _, rfl, rfl, _, _, rfl, rfl, .inl ⟨_, rfl, _, _, rfl, rfl, (show (2147483647 : Int) ≠ 0 by decide), ?_⟩⟩
        exact ⟨_, _, rfl, rfl, Int.fmod_nonneg_of_pos _ (by decide)⟩
      · obtain ⟨c, v, rfl, rfl, hv⟩ := hP
        refine ⟨.ref D, rfl, D, rfl, ⟨_, SqL.of eD⟩, fun D2 hD2 => ?_⟩
        refine lc_list (K := K) (a := D) (xs := ns.map V.int) (fun i H3 => Same H2 H3 ∧ ∃ us : List Int, H3 D2 = some (.lst (us.map V.int)) ∧ (∀ n ∈ us, 0 ≤ n) ∧ us.length ≤ i) ⟨same_upd hD2, [], upd_same, (fun n hn => absurd hn List.not_mem_nil), Nat.le_refl _⟩ (fun i H' hi hP => SqL.of (hP.1 _ _ eD)) (fun i z H3 hz hP => ?_) fun H3 hP => ?_
        · obtain ⟨sm3, us, eD3, h3, hn3⟩ := hP
          obtain ⟨n, hnn, rfl⟩ := map_some hz
          have hi : i < ns.length := (List.getElem?_eq_some_iff.mp hnn).1
          refine ⟨rfl, .int n, rfl, _, _, rfl, rfl, ⟨by decide, by decide, by decide⟩, _, _, rfl, rfl, _, rfl, ?_⟩
          by_cases hc : (10 : Int) ^ (18 : Int).toNat ≤ n
          · rw [decide_eq_true hc]
            refine iteT ⟨.int n, rfl, _, eD3, ?_, same_put sm3 hD2, us ++ [n], ?_, fun m hm => ?_, ?_⟩
            · rw [List.length_map]
              exact lt_line (m := 100) (by omega) (by decide)
            · rw [upd_same, List.map_append]
              rfl
            · rcases List.mem_append.mp hm with hm | hm
              · exact h3 m hm
              · rw [List.mem_singleton.mp hm]
                exact h0 n (List.mem_of_getElem? hnn)
            · rw [List.length_append, List.length_singleton]
              omega
          · rw [decide_eq_false hc]
            exact iteF ⟨sm3, us, eD3, h3, by omega⟩
        · obtain ⟨sm3, us, eD3, h3, hn3⟩ := hP
          rw [List.length_map] at hn3
          refine ⟨D2, _, rfl, SqL.of eD3, fun r nr => ⟨.int v, rfl, by show 2 ≤ sizeLine; decide, fun t nt => ?_⟩⟩
          have smr := same_upd nr (o := .lst (us.map V.int).reverse)
          have smt := same_upd nt (o := .lst [.ref r, .int v])
          refine q _ t r (((sm1.trans sm).trans sm3).trans (smr.trans smt)) ⟨us.reverse, v, ?_, upd_same, ?_, fun n hn => h3 n (List.mem_reverse.mp hn), ?_, hv⟩
          · intro e
            rw [e] at nt
            rw [upd_same] at nt
            cases nt
          · rw [List.map_reverse]
            exact smt _ _ upd_same
          · rw [List.length_reverse]
            omega
end
end K66
namespace K66
open PySem PySem.Spec PyProof.Rows L2
abbrev nDealt : List Str := ["_law_deal", "_law_b", "_law_many", "_law_records", "_law_blocks", "_law_record", "_law_free", "_law_block", "_law_at"]
theorem scDealt : FnScope nDealt ["_law_deal", "_law_b", "_law_many", "_law_records"] (defScope dDealt) := ⟨rfl, rfl, rfl, by decide +kernel, rfl, by decide +kernel, by decide +kernel⟩
abbrev rLenC (K : PySem.W.Frag) : List V → Hp → VK → Prop := fun xs H Q => ∃ p ys, xs = [V.ref p] ∧ (SqL K H p ys ∨ SqT K H p ys) ∧ Q (.int ys.length) H
abbrev rTupC (K : PySem.W.Frag) : List V → Hp → VK → Prop := fun xs H Q => ∃ p ys, xs = [V.ref p] ∧ ((SqL K H p ys ∧ ∀ l, H l = none → Q (.ref l) (upd H l (.tup ys))) ∨ (SqT K H p ys ∧ Q (.ref p) H))
/-! ## blocks being filled -/
def Okp (b : Nat) (ns : List Int) : Prop := ns.length ≤ b ∧ ∀ n ∈ ns, 0 ≤ n ∧ n < 64
def BlkL (H : Hp) (b : Nat) (o : Addr) (ns : List Int) : Prop := H o = some (.lst (ns.map V.int)) ∧ Okp b ns
theorem blk_keep {H H' : Hp} {b : Nat} : ∀ {os : List Addr} {bss : List (List Int)}, Paired (BlkL H b) os bss → (∀ o ∈ os, ∀ x, H o = some x → H' o = some x) → Paired (BlkL H' b) os bss
  | _, _, .nil, _ => .nil
  | _, _, .cons h t, k => .cons ⟨k _ List.mem_cons_self _ h.1, h.2⟩ (blk_keep t fun o ho => k o (List.mem_cons_of_mem _ ho))
theorem blk_set {H : Hp} {b : Nat} {o : Addr} {ns' : List Int} (ok : Okp b ns') : ∀ {os : List Addr} {bss : List (List Int)} {j : Nat}, Paired (BlkL H b) os bss → os.Nodup → os[j]? = some o → Paired (BlkL (upd H o (.lst (ns'.map V.int))) b) os (bss.set j ns')
  | _, _, _, .nil, _, e => by cases e
  | _ :: os, _ :: bss, 0, .cons h t, hn, e => by
    cases e
    obtain ⟨n1, _⟩ := List.nodup_cons.mp hn
    exact .cons ⟨upd_same, ok⟩ (blk_keep t fun o' ho x q => by
      have hne : o' ≠ o := fun z => by subst z; exact n1 ho
      rw [upd_ne hne]
      exact q)
  | c :: os, _ :: bss, j + 1, .cons h t, hn, e => by
    obtain ⟨n1, n2⟩ := List.nodup_cons.mp hn
    have e' : os[j]? = some o := e
    have hm : o ∈ os := List.mem_of_getElem? e'
    have hne : c ≠ o := fun z => by subst z; exact n1 hm
    exact .cons ⟨by rw [upd_ne hne]; exact h.1, h.2⟩ (blk_set ok t n2 e')
theorem flat_set : ∀ {l : List (List Int)} {j : Nat} {ns : List Int} {r : Int}, l[j]? = some ns → (l.set j (ns ++ [r])).flatten.length = l.flatten.length + 1
  | [], _, _, _, e => by cases e
  | x :: l, 0, ns, r, e => by
    cases e
    simp
    omega
  | x :: l, j + 1, ns, r, e => by
    have e' : l[j]? = some ns := e
    have := flat_set (r := r) e'
    simp at this ⊢
    omega
theorem flat_full {b : Nat} : ∀ {l : List (List Int)}, (∀ ns ∈ l, b ≤ ns.length) → b * l.length ≤ l.flatten.length
  | [], _ => by simp
  | x :: l, h => by
    have h1 := h x List.mem_cons_self
    have h2 := flat_full (l := l) fun y hy => h y (List.mem_cons_of_mem _ hy)
    rw [List.flatten_cons, List.length_append, List.length_cons, Nat.mul_add]
    omega
theorem flat_rep : ∀ n : Nat, (List.replicate n ([] : List Int)).flatten.length = 0
  | 0 => rfl
  | n + 1 => by rw [List.replicate_succ, List.flatten_cons, List.nil_append]; exact flat_rep n
section
variable {P : Program} {w : World} {K : PySem.W.Frag} {mg : Str → Option Value} {base : Heap}
/-! ### _law_dealt -/
def spDealt : Sp := fun vs H Q _ => ∃ (a a0 p : Addr) (b many : Nat) (ns : List Int), vs = [.ref a, .int b, .int many, .ref p] ∧ Dl H a a0 ∧ b ≤ 3 ∧ many ≤ 8 ∧ H p = some (.lst (ns.map V.int)) ∧ (∀ n ∈ ns, 0 ≤ n ∧ n < 64) ∧ ns.length ≤ b * many ∧
  ∀ (H' : Hp) (v : V) (bl : List (List Int)), Dr a a0 H H' → PartsT H' v bl → bl.length = many → (∀ part ∈ bl, Okp b part) → Q v H'
theorem ok_dealt {f fM fO : Addr} {fd fdM fdO : FuncData} (F : Fun K "_law_dealt" "_law_dealt" dDealt f fd)
    (FM : Fun K "_law_mixed" "_law_mixed" dMixed fM fdM) (GM : FnOk P w K mg base CX0 2 fM fdM ["_law_deal", "_law_some"] spMixed) (bM : Binds K fdM ["_law_deal", "_law_some"] []) (gM : mg "_law_mixed" = some (.ref fM))
    (FO : Fun K "_law_of" "_law_of" dOf fO fdO) (GO : FnOk P w K mg base CX0 2 fO fdO ["_law_deal", "_law_some"] spOf) (bO : Binds K fdO ["_law_deal", "_law_some"] []) (gO : mg "_law_of" = some (.ref fO))
    (ml : mg "len" = none) (mr : mg "range" = none) (mt : mg "tuple" = none) (ms : mg "sorted" = none) : FnOk P w K mg base CX0 3 f fd ["_law_deal", "_law_b", "_law_many", "_law_records"] spDealt := by
  refine F.ok scDealt (fun vs H Q E h => ?_) (fun cdv A outer s H vs Q E hr h => ?_)
  · obtain ⟨a, a0, p, b, many, ns, rfl, _⟩ := h
    rfl
  · obtain ⟨a, a0, p, b, many, ns, rfl, hd, hb3, hm8, ep, hrng, hcap, q⟩ := h
    refine ⟨_, pss_cons (ps_set (i := 4) scDealt.nd rfl (.inr rfl) (pe_lc (own := [("_law_block", 7)]) (g := gName 7) (tt := tYes) rfl scDealt.nd (pi_range1 (by rfl) mr (pa_cons (pv 2) pa_nil))
          (blkOk_by (N := nDealt) (sc := defScope dDealt) (by decide +kernel)) (fun _ _ _ _ _ => pg_name (i := 7) scDealt.nd rfl (Or.inl rfl)) (fun _ _ _ _ _ => pts_nil) (fun _ _ _ _ _ => pe_lst pa_nil)))
      (pss_cons (ps_for PassesOwn.never rfl (pi_list (pe_call GM hr (by rfl) gM FM.kp bM .nil pass0 (pa_cons (pv 0) (pa_cons (pv 3) pa_nil)))) (pg_name (i := 5) scDealt.nd rfl (.inl rfl))
        (pss_cons (ps_setLc (i := 6) (own := [("_law_at", 8)]) (g := gName 8) rfl scDealt.nd rfl rfl (by rfl) (pi_range1 (by rfl) mr (pa_cons (pv 2) pa_nil)) (blkOk_by (N := nDealt) (sc := defScope dDealt) (by decide +kernel)) (fun _ _ _ _ _ => pg_name (i := 8) scDealt.nd rfl (Or.inl rfl))
            (fun _ _ _ _ _ => pts_one (pt_cmpR (r := rI0 fun i j => .bl (decide (i < j))) op_lt (pe_callB (r := rLenC K) call_len_seq (by rfl) ml boot_len' (pa_cons (pe_ix (r := rIxL K) ix_list (pv 4) (pv 8) (fun _ _ => rfl)) pa_nil)) (pv 1) (nomark _))) (fun _ _ _ _ _ => pv 8))
          (pss_one (ps_expr (pe_bm PySem.F.plainAttrs_list PySem.F.slot_list_append PySem.F.type_list_append mt_append (pe_ix ix_list (pv 4) (pe_call GO hr (by rfl) gO FO.kp bO .nil pass0 (pa_cons (pv 0) (pa_cons (pv 6) pa_nil))) (fun _ _ => rfl)) (pa_cons (pv 5) pa_nil))))))
      (pss_one (ps_ret (pe_callTy call_tuple_of (by rfl) mt boot_tuple' (pa_cons (pe_lc (own := [("_law_block", 7)]) (g := gName 7) (tt := tYes) rfl scDealt.nd (pi_list (pv 4)) (blkOk_by (N := nDealt) (sc := defScope dDealt) (by decide +kernel)) (fun _ _ _ _ _ => pg_name (i := 7) scDealt.nd rfl (Or.inl rfl)) (fun _ _ _ _ _ => pts_nil)
          (fun _ _ _ _ _ => pe_callTy (r := rTupC K) call_tuple_of (by rfl) mt boot_tuple' (pa_cons (pe_callB (r := rSorted K) cr_sorted (by rfl) ms boot_sorted' (pa_cons (pv 7) pa_nil)) pa_nil))) pa_nil))))), ?_⟩
    refine ⟨.int many, rfl, (many : Int), rfl, by omega, by omega, fun D hD => ?_⟩
    have eman : ((many : Int)).toNat = many := Int.toNat_natCast many
    refine lc_range (lo := 0) (n := many) (fun i H' => ∃ os : List Addr, H' D = some (.lst (os.map V.ref)) ∧ Same H H' ∧ Paired (BlkL H' b) os (List.replicate i []) ∧ os.Nodup ∧ ∀ o ∈ os, H o = none ∧ o ≠ D)
      ⟨[], upd_same, same_upd hD, .nil, List.Pairwise.nil, fun o ho => absurd ho List.not_mem_nil⟩ (fun i H' hi hP => ?_) fun H' hP => ?_
    · obtain ⟨os, eD, sm, hbl, hnd, hfr⟩ := hP
      have hlo := Paired.length hbl
      rw [List.length_replicate] at hlo
      refine ⟨rfl, tYes_ok (iteT ⟨Nat.zero_le _, fun o no => ?_⟩)⟩
      have sm2 := same_upd no (o := .lst [])
      have hoD : D ≠ o := ne_of_none eD no
      have hnew : ∀ o' ∈ os, ∃ x, H' o' = some x := by
        intro o' ho'
        obtain ⟨j, hj⟩ := List.getElem?_of_mem ho'
        obtain ⟨y, _, hy, _⟩ := paired_get2 hbl hj
        exact ⟨_, hy⟩
      have hno : ∀ o' ∈ os, o' ≠ o := fun o' ho' => by
        obtain ⟨x, hx⟩ := hnew o' ho'
        exact ne_of_none hx no
      refine ⟨_, sm2 _ _ eD, ?_, os ++ [o], ?_, same_put (sm.trans sm2) hD, ?_, ?_, ?_⟩
      · rw [List.length_map]
        exact lt_line (m := 100) (by omega) (by decide)
      · rw [upd_same, List.map_append]
        rfl
      · rw [List.replicate_succ']
        refine Paired.snoc (blk_keep hbl fun o' ho' x hx => ?_) ⟨?_, Nat.zero_le _, fun n hn => absurd hn List.not_mem_nil⟩
        · rw [upd_ne (hfr o' ho').2]
          exact sm2 _ _ hx
        · rw [upd_ne (Ne.symm hoD)]
          exact upd_same
      · rw [List.nodup_append]
        refine ⟨hnd, by simp, fun x hx y hy => ?_⟩
        rw [List.mem_singleton.mp hy]
        exact hno x hx
      · intro o' ho'
        rcases List.mem_append.mp ho' with ho' | ho'
        · exact hfr o' ho'
        · rw [List.mem_singleton.mp ho']
          exact ⟨sm.free no, Ne.symm hoD⟩
    · obtain ⟨os, eD, sm, hbl, hnd, hfr⟩ := hP
      have hlo := Paired.length hbl
      rw [List.length_replicate] at hlo
      have hd1 := hd.same sm
      refine ⟨.ref a, rfl, .ref p, rfl, a, a0, p, ns.map V.int, rfl, hd1, .inl (sm _ _ ep), fun x hx H' _ => okv_ints x hx, ?_, fun H2 l ys dr nl el hperm => ?_⟩
      · rw [List.length_map]
        have : b * many ≤ 3 * 8 := Nat.mul_le_mul hb3 hm8
        omega
      · have dr0 : Dr a a0 H H2 := (Dr.of hd sm).trans dr
        have eD2 : H2 D = some (.lst (os.map V.ref)) := dr.own hd hD eD
        have hbl2 : Paired (BlkL H2 b) os (List.replicate many []) := blk_keep hbl fun o ho x hx => dr.own hd (hfr o ho).1 hx
        have hol : ∀ o ∈ os, o ≠ l := by
          intro o' ho'
          obtain ⟨j, hj⟩ := List.getElem?_of_mem ho'
          obtain ⟨y, _, hy, _⟩ := paired_get2 hbl hj
          exact ne_of_none hy nl
        have hlD : D ≠ l := ne_of_none eD nl
        have nlH : H l = none := sm.free nl
        refine ⟨l, rfl, ⟨_, SqL.of el⟩, ?_⟩
        have hyl : ys.length = ns.length := by rw [hperm.length_eq, List.length_map]
        refine for_list (xs := ys) (fun i σ H' => ∃ (v5 v6 v7 v8 : Option V) (bss : List (List Int)), σ = [some (.ref a), some (.int b), some (.int many), some (.ref p), some (.ref D), v5, v6, v7, v8] ∧ Dr a a0 H H' ∧ H' D = some (.lst (os.map V.ref)) ∧ H' l = some (.lst ys) ∧ Paired (BlkL H' b) os bss ∧ bss.flatten.length = i)
          ⟨none, none, none, none, _, rfl, dr0, eD2, el, hbl2, flat_rep many⟩ (fun i σ H' _ hP => by obtain ⟨_, _, _, _, _, _, _, _, z, _⟩ := hP; exact SqL.of z) (fun i y σ H' hy hP => ?_) fun σ H' hP => ?_
        · obtain ⟨v5, v6, v7, v8, bss, rfl, dr3, eD3, el3, hbl3, hfl⟩ := hP
          have hi : i < ns.length := by
            have := (List.getElem?_eq_some_iff.mp hy).1
            omega
          obtain ⟨rec, hrec, rfl⟩ := List.mem_map.mp (hperm.mem_iff.mp (List.mem_of_getElem? hy))
          have hlb := Paired.length hbl3
          refine ⟨.int many, rfl, (many : Int), rfl, by omega, by omega, fun Fr hF => ?_⟩
          refine lc_range (lo := 0) (n := many) (fun j H4 => Same H' H4 ∧ ∃ us : List Int, H4 Fr = some (.lst (us.map V.int)) ∧ us.length ≤ j ∧ (∀ u ∈ us, ∃ (k : Nat) (bs : List Int), u = (k : Int) ∧ bss[k]? = some bs ∧ bs.length < b) ∧ ∀ (k : Nat) (bs : List Int), k < j → bss[k]? = some bs → bs.length < b → (k : Int) ∈ us)
            ⟨same_upd hF, [], upd_same, Nat.le_refl _, fun u hu => absurd hu List.not_mem_nil, fun k bs hk => absurd hk (Nat.not_lt_zero _)⟩ (fun j H4 hj hP4 => ?_) fun H4 hP4 => ?_
          · obtain ⟨sm4, us, eF, hul, hus, hall⟩ := hP4
            have hjo : j < os.length := by omega
            have ej : os[j]? = some os[j] := List.getElem?_eq_getElem hjo
            obtain ⟨bs, hbs, hbo⟩ := paired_get2 hbl3 ej
            refine ⟨rfl, .ref D, rfl, .int (0 + (j : Nat)), rfl, D, _, _, .ref os[j], rfl, rfl, SqL.of (sm4 _ _ eD3), atI_0 (by rw [List.getElem?_map, ej]; rfl), os[j], _, rfl, .inl (SqL.of (sm4 _ _ hbo.1)), .int b, rfl, _, _, rfl, rfl, _, rfl, ?_⟩
            rw [List.length_map]
            by_cases hc : ((bs.length : Nat) : Int) < (b : Int)
            · rw [decide_eq_true hc]
              refine iteT ⟨.int (0 + (j : Nat)), rfl, _, eF, ?_, same_put sm4 hF, us ++ [(j : Int)], ?_, ?_, fun u hu => ?_, fun k bs' hk hkb hkl => ?_⟩
              · rw [List.length_map]
                exact lt_line (m := 100) (by omega) (by decide)
              · rw [upd_same, List.map_append, Int.zero_add]
                rfl
              · rw [List.length_append, List.length_singleton]
                omega
              · rcases List.mem_append.mp hu with hu | hu
                · exact hus u hu
                · exact ⟨j, bs, List.mem_singleton.mp hu, hbs, by omega⟩
              · by_cases hkj : k = j
                · subst hkj
                  exact List.mem_append_right _ List.mem_cons_self
                · exact List.mem_append_left _ (hall k bs' (by omega) hkb hkl)
            · rw [decide_eq_false hc]
              refine iteF ⟨sm4, us, eF, by omega, hus, fun k bs' hk hkb hkl => ?_⟩
              by_cases hkj : k = j
              · subst hkj
                rw [hbs] at hkb
                cases hkb
                omega
              · exact hall k bs' (by omega) hkb hkl
          · obtain ⟨sm4, us, eF, hul, hus, hall⟩ := hP4
            have hune : us ≠ [] := by
              intro e
              subst e
              have hfull : ∀ x ∈ bss, b ≤ x.length := fun x hx => by
                obtain ⟨k, hk⟩ := List.getElem?_of_mem hx
                have hkl : k < many := by
                  have := (List.getElem?_eq_some_iff.mp hk).1
                  omega
                by_cases hxb : x.length < b
                · exact absurd (hall k x hkl hk hxb) List.not_mem_nil
                · omega
              have hff := flat_full hfull
              rw [← hlb, hlo] at hff
              omega
            have dr4 := dr3.same sm4
            have hFa := dr3.dl.ne hF
            refine ⟨.ref D, rfl, .ref a, rfl, .ref Fr, rfl, a, a0, Fr, us, rfl, dr4.dl, hFa.1, hFa.2, eF, hune, by omega, fun H5 r dr5 hr5 => ?_⟩
            obtain ⟨k, bs, rfl, hkb, hkl⟩ := hus r hr5
            obtain ⟨o, hko, hbo⟩ := paired_get1 hbl3 hkb
            have hom : o ∈ os := List.mem_of_getElem? hko
            have eD5 : H5 D = some (.lst (os.map V.ref)) := dr5.own hd hD (sm4 _ _ eD3)
            have eo5 : H5 o = some (.lst (bs.map V.int)) := dr5.own hd (hfr o hom).1 (sm4 _ _ hbo.1)
            refine ⟨D, _, (k : Int), .ref o, rfl, rfl, SqL.of eD5, atI_nat (by rw [List.getElem?_map, hko]; rfl), .inl ⟨rfl, _, SqL.of eo5⟩, .int rec, rfl, o, _, _, rfl, rfl, eo5, ?_, ?_⟩
            · rw [List.length_map]
              exact lt_line (m := 100) (by omega) (by decide)
            · refine ⟨_, _, _, _, bss.set k (bs ++ [rec]), rfl, (dr4.trans dr5).put (hfr o hom).1, ?_, ?_, ?_, ?_⟩
              · rw [upd_ne (Ne.symm (hfr o hom).2)]
                exact eD5
              · rw [upd_ne (Ne.symm (hol o hom))]
                exact dr5.own hd nlH (sm4 _ _ el3)
              · have h5 : Paired (BlkL H5 b) os bss := blk_keep hbl3 fun o' ho' x hx => dr5.own hd (hfr o' ho').1 (sm4 _ _ hx)
                have h6 := blk_set (ns' := bs ++ [rec]) ⟨by rw [List.length_append, List.length_singleton]; omega, fun n hn => by
                  rcases List.mem_append.mp hn with hn | hn
                  · exact hbo.2.2 n hn
                  · rw [List.mem_singleton.mp hn]
                    exact hrng rec hrec⟩ h5 hnd hko
                rw [List.map_append] at h6
                exact h6
              · rw [flat_set hkb, hfl]
        · obtain ⟨v5, v6, v7, v8, bss, rfl, dr3, eD3, el3, hbl3, hfl⟩ := hP
          have hlb := Paired.length hbl3
          refine ⟨.ref D, rfl, D, rfl, ⟨_, SqL.of eD3⟩, fun D2 hD2 => ?_⟩
          refine lc_list (K := K) (a := D) (xs := os.map V.ref) (fun i H4 => Same H' H4 ∧ ∃ (ys' : List V) (parts : List (List Int)), H4 D2 = some (.lst ys') ∧ Paired (IntsT H4) ys' parts ∧ parts.length = i ∧ ∀ part ∈ parts, Okp b part)
            ⟨same_upd hD2, [], [], upd_same, .nil, rfl, fun x hx => absurd hx List.not_mem_nil⟩ (fun i H4 _ hP => SqL.of (hP.1 _ _ eD3)) (fun i z H4 hz hP => ?_) fun H4 hP => ?_
          · obtain ⟨sm4, ys', parts, eD4, hpp, hpl, hpo⟩ := hP
            obtain ⟨o, ho, rfl⟩ := map_some hz
            have hi : i < os.length := (List.getElem?_eq_some_iff.mp ho).1
            obtain ⟨bs, hbs, hbo⟩ := paired_get2 hbl3 ho
            have hb1 := hbo.2.1
            refine ⟨rfl, tYes_ok (iteT ?_)⟩
            refine ⟨.ref o, rfl, o, bs, rfl, SqL.of (sm4 _ _ hbo.1), by omega, fun ns' r hpm hsd nr => ?_⟩
            refine ⟨r, _, rfl, .inl ⟨SqL.of upd_same, fun t nt => ?_⟩⟩
            have sm5 := (same_upd nr (o := .lst (ns'.map V.int))).trans (same_upd nt (o := .tup (ns'.map V.int)))
            refine ⟨_, sm5 _ _ eD4, ?_, same_put (sm4.trans sm5) hD2, ys' ++ [.ref t], parts ++ [ns'], upd_same, ?_, ?_, fun part hp => ?_⟩
            · rw [Paired.length hpp, hpl]
              exact lt_line (m := 100) (by omega) (by decide)
            · refine Paired.snoc (parts_te ((TE2.of sm5).trans (te_put (sm5 _ _ eD4))) hpp) ⟨t, rfl, ?_⟩
              rw [upd_ne]
              · exact upd_same
              · exact Ne.symm (ne_of_none (same_upd nr _ _ eD4) nt)
            · rw [List.length_append, hpl]
              rfl
            · rcases List.mem_append.mp hp with hp | hp
              · exact hpo part hp
              · rw [List.mem_singleton.mp hp]
                exact ⟨by rw [hpm.length_eq]; exact hb1, fun n hn => hbo.2.2 n (hpm.mem_iff.mp hn)⟩
          · obtain ⟨sm4, ys', parts, eD4, hpp, hpl, hpo⟩ := hP
            rw [List.length_map, hlo] at hpl
            refine ⟨D2, _, rfl, .inl ⟨SqL.of eD4, fun t nt => ?_⟩⟩
            exact q _ (.ref t) parts (dr3.same (sm4.trans (same_upd nt))) ⟨t, ys', rfl, upd_same, parts_te (te_new nt) hpp⟩ hpl hpo
end
end K66
namespace K66
open PySem PySem.Spec PyProof.Rows L2
abbrev nStanding : List Str := ["_law_deal", "_law_most", "_law_size", "_law_b", "_law_many", "_law_full", "_law_count"]
theorem scStanding : FnScope nStanding ["_law_deal", "_law_most", "_law_size"] (defScope dStanding) := ⟨rfl, rfl, rfl, by decide +kernel, rfl, by decide +kernel, by decide +kernel⟩
abbrev nPour : List Str := ["_law_deal", "_law_standing_here", "_law_m", "_law_b", "_law_blocks", "_law_many", "_law_who", "_law_records", "_law_at"]
theorem scPour : FnScope nPour ["_law_deal", "_law_standing_here", "_law_m"] (defScope dPour) := ⟨rfl, rfl, rfl, by decide +kernel, rfl, by decide +kernel, by decide +kernel⟩
structure MixP (P : Program) (w : World) (K : PySem.W.Frag) (mg : Str → Option Value) (base : Heap) (k : Nat) (f : Addr) (fd : FuncData) : Prop where
  F : Fun K "_law_mixed" "_law_mixed" dMixed f fd
  G : FnOk P w K mg base CX0 k f fd ["_law_deal", "_law_some"] spMixed
  b : Binds K fd ["_law_deal", "_law_some"] []
  g : mg "_law_mixed" = some (.ref f)
structure DealtP (P : Program) (w : World) (K : PySem.W.Frag) (mg : Str → Option Value) (base : Heap) (k : Nat) (f : Addr) (fd : FuncData) : Prop where
  F : Fun K "_law_dealt" "_law_dealt" dDealt f fd
  G : FnOk P w K mg base CX0 k f fd ["_law_deal", "_law_b", "_law_many", "_law_records"] spDealt
  b : Binds K fd ["_law_deal", "_law_b", "_law_many", "_law_records"] []
  g : mg "_law_dealt" = some (.ref f)
theorem rg_ints (n : Nat) : rgV 0 n = ((List.range n).map fun i => ((i : Nat) : Int)).map V.int := by
  unfold rgV
  rw [List.map_map]
  have : ((n : Int) - 0).toNat = n := by omega
  rw [this]
  refine List.map_congr_left fun i _ => ?_
  show V.int (0 + (i : Int)) = V.int (i : Int)
  rw [Int.zero_add]
theorem perm_ints {ys : List V} {ns : List Int} (h : ys.Perm (ns.map V.int)) : ∃ ms : List Int, ys = ms.map V.int ∧ ms.Perm ns := by
  refine ⟨ys.map fun v => match v with | .int n => n | _ => 0, ?_, ?_⟩
  · rw [List.map_map]
    have : ∀ v ∈ ys, (V.int ∘ fun v => match v with | .int n => n | _ => 0) v = v := fun v hv => by
      obtain ⟨n, _, rfl⟩ := List.mem_map.mp (h.mem_iff.mp hv)
      rfl
    rw [List.map_congr_left this, List.map_id']
  · have := h.map fun v => match v with | .int n => n | _ => 0
    rw [List.map_map] at this
    have e : ((fun v => match v with | .int n => n | _ => 0) ∘ V.int) = (id : Int → Int) := rfl
    rw [e, List.map_id] at this
    exact this
theorem cut_take (xs : List V) (k : Nat) : cutV xs none (some (k : Int)) = xs.take k := by
  unfold cutV
  rw [HT.sIx_none, HT.sIx_nat, List.drop_zero, Nat.sub_zero]
  exact List.take_eq_take_iff.mpr (by omega)
section
variable {P : Program} {w : World} {K : PySem.W.Frag} {mg : Str → Option Value} {base : Heap}
/-! ### _law_standing -/
def spStanding : Sp := fun vs H Q _ => ∃ (a a0 : Addr), vs = [.ref a, .int 6, .int 3] ∧ Dl H a a0 ∧ ∀ (H' : Hp) (v : V) (b : Nat) (bl : List (List Int)), Dr a a0 H H' → StandT H' v b bl → 1 ≤ b → b ≤ 3 → 1 ≤ bl.length → bl.length ≤ 6 → (∀ part ∈ bl, Okp b part) → Q v H'
theorem ok_standing {f fA fD : Addr} {fd fdA fdD : FuncData} (F : Fun K "_law_standing" "_law_standing" dStanding f fd) (A1 : AnyP P w K mg base 1 fA fdA) (D3 : DealtP P w K mg base 3 fD fdD)
    (mr : mg "range" = none) (mli : mg "list" = none) : FnOk P w K mg base CX0 4 f fd ["_law_deal", "_law_most", "_law_size"] spStanding := by
  refine F.ok scStanding (fun vs H Q E h => ?_) (fun cdv A outer s H vs Q E hr h => ?_)
  · obtain ⟨a, a0, rfl, _⟩ := h
    rfl
  · obtain ⟨a, a0, rfl, hd, q⟩ := h
    refine ⟨_, pss_cons (ps_par (i := 3) (j := 4) rfl scStanding.nd rfl rfl (by decide) rfl rfl (pa_cons (pe_op op_add pe_int (pe_call A1.G (hr.mono (by decide)) (by rfl) A1.g A1.F.kp A1.b .nil pass0 (pa_cons (pv 0) (pa_cons (pv 2) pa_nil))))
          (pa_cons (pe_op op_add pe_int (pe_call A1.G (hr.mono (by decide)) (by rfl) A1.g A1.F.kp A1.b .nil pass0 (pa_cons (pv 0) (pa_cons (pv 1) pa_nil)))) pa_nil)) (by rfl))
      (pss_cons (ps_set (i := 5) scStanding.nd rfl (.inl rfl) (pe_op op_mul (pv 3) (pv 4)))
      (pss_cons (ps_set (i := 6) scStanding.nd rfl (.inl rfl) (pe_ifExp (pt_cmpR op_eq (pe_call A1.G (hr.mono (by decide)) (by rfl) A1.g A1.F.kp A1.b .nil pass0 (pa_cons (pv 0) (pa_cons pe_int pa_nil))) pe_int (nomark _)) (pv 5)
          (pe_call A1.G (hr.mono (by decide)) (by rfl) A1.g A1.F.kp A1.b .nil pass0 (pa_cons (pv 0) (pa_cons (pe_op op_add (pv 5) pe_int) pa_nil)))))
      (pss_one (ps_ret (pe_tup (pa_cons (pv 3) (pa_cons (pe_call D3.G hr (by rfl) D3.g D3.F.kp D3.b .nil pass0 (pa_cons (pv 0) (pa_cons (pv 3) (pa_cons (pv 4) (pa_cons
          (pe_listRg rfl (by rfl) mli (prg_1 (by rfl) mr (pv 6))) pa_nil))))) pa_nil))))))), ?_⟩
    refine ⟨.ref a, rfl, .int 3, rfl, a, a0, 3, rfl, hd, by decide, by decide, fun H1 r1 dr1 h10 h13 => ?_⟩
    refine ⟨_, _, rfl, rfl, .ref a, rfl, .int 6, rfl, a, a0, 6, rfl, dr1.dl, by decide, by decide, fun H2 r2 dr2 h20 h26 => ?_⟩
    obtain ⟨b, eb⟩ : ∃ b : Nat, (1 : Int) + r1 = (b : Int) := ⟨(1 + r1).toNat, by omega⟩
    obtain ⟨m, em⟩ : ∃ m : Nat, (1 : Int) + r2 = (m : Int) := ⟨(1 + r2).toNat, by omega⟩
    refine ⟨_, _, rfl, rfl, _, _, rfl, ?_⟩
    dsimp only
    rw [eb, em]
    have hbm : ((b : Int) * (m : Int)) = ((b * m : Nat) : Int) := (Int.natCast_mul b m).symm
    have hbm18 : b * m ≤ 3 * 6 := Nat.mul_le_mul (by omega) (by omega)
    refine ⟨.int b, rfl, .int m, rfl, _, _, rfl, rfl, .inl ⟨by omega, by omega⟩, ?_⟩
    dsimp only
    rw [hbm]
    refine ⟨.ref a, rfl, a, a0, 3, rfl, dr2.dl, by decide, by decide, fun H3 r3 dr3 h30 h33 => ?_⟩
    have dr03 := (dr1.trans dr2).trans dr3
    have fin : ∀ (H4 : Hp) (c : Nat), Dr a a0 H H4 → c ≤ b * m → 
        tRet (tTup (tCons (tVar 3) (tCons (tCall spDealt [] E0 (tCons (tVar 0) (tCons (tVar 3) (tCons (tVar 4) (tCons (tLstRg (tRg1 (tVar 6))) tNil))))) tNil))) { nx := fun x H' => Q V.non H', rt := Q } [some (.ref a), some (.int 6), some (.int 3), some (.int b), some (.int m), some (.int ((b * m : Nat) : Int)), some (.int (c : Int))] H4 := by
      intro H4 c dr4 hc
      refine ⟨.int b, rfl, .ref a, rfl, .int b, rfl, .int m, rfl, .int (c : Int), rfl, (c : Int), rfl, RgOk.of_le (by omega) (by omega) (by omega) (by omega), fun l nl => ?_⟩
      have smr := same_upd nl (o := .lst (rgV 0 (c : Int)))
      refine ⟨a, a0, l, b, m, _, rfl, dr4.dl.same smr, by omega, by omega, (by rw [upd_same, rg_ints]), fun n hn => ?_, ?_, fun H5 v bl dr5 hv hbl hok => ?_⟩
      · obtain ⟨i, hi, rfl⟩ := List.mem_map.mp hn
        have := List.mem_range.mp hi
        omega
      · rw [List.length_map, List.length_range]
        exact hc
      · refine ⟨by show 2 ≤ sizeLine; decide, fun t nt => ?_⟩
        have smt := same_upd nt (o := .tup [.int b, v])
        exact q _ (.ref t) b bl (((dr4.same smr).trans dr5).same smt) ⟨t, v, rfl, upd_same, hv.te (TE2.of smt)⟩ (by omega) (by omega) (by omega) (by omega) hok
    refine ⟨rfl, ?_⟩
    by_cases hz : r3 = 0
    · rw [decide_eq_true (show V.int r3 = V.int 0 by rw [hz])]
      refine ⟨_, rfl, iteT ?_⟩
      exact ⟨_, rfl, fin H3 (b * m) dr03 (Nat.le_refl _)⟩
    · rw [decide_eq_false (show ¬ V.int r3 = V.int 0 from fun e => hz (V.int.inj e))]
      refine ⟨_, rfl, iteF ?_⟩
      refine ⟨.ref a, rfl, .int ((b * m : Nat) : Int), rfl, _, _, rfl, rfl, a, a0, _, rfl, dr3.dl, by omega, by omega, fun H4 r4 dr4 h40 h43 => ?_⟩
      have h4 := fin H4 r4.toNat (dr03.trans dr4) (by omega)
      rw [Int.toNat_of_nonneg h40] at h4
      exact h4
/-! ### _law_pour -/
def spPour : Sp := fun vs H Q _ => ∃ (a a0 : Addr) (x : V) (m : Int) (b : Nat) (bl : List (List Int)), vs = [.ref a, x, .int m] ∧ Dl H a a0 ∧ StandT H x b bl ∧ b ≤ 3 ∧ 2 ≤ bl.length ∧ bl.length ≤ 8 ∧ (∀ part ∈ bl, Okp b part) ∧ 2 ≤ m ∧ m ≤ 3 ∧
  ∀ (H' : Hp) (v : V) (p : Pour), Dr a a0 H H' → PourT H' v p → Good bl.length p → (∀ part ∈ p.2, Okp b part) → Q v H'
theorem ok_pour {f fA fM fD : Addr} {fd fdA fdM fdD : FuncData} (F : Fun K "_law_pour" "_law_pour" dPour f fd) (A1 : AnyP P w K mg base 1 fA fdA) (M2 : MixP P w K mg base 2 fM fdM) (D3 : DealtP P w K mg base 3 fD fdD)
    (mr : mg "range" = none) (mli : mg "list" = none) (ml : mg "len" = none) (mmi : mg "min" = none) (ms : mg "sorted" = none) (mt : mg "tuple" = none) : FnOk P w K mg base CX0 4 f fd ["_law_deal", "_law_standing_here", "_law_m"] spPour := by
  refine F.ok scPour (fun vs H Q E h => ?_) (fun cdv A outer s H vs Q E hr h => ?_)
  · obtain ⟨a, a0, x, m, b, bl, rfl, _⟩ := h
    rfl
  · obtain ⟨a, a0, x, m, b, bl, rfl, hd, hst, hb3, hl2, hl8, hok, hm2, hm3, q⟩ := h
    refine ⟨_, pss_cons (ps_asg (pv 1) (pg_tup rfl (pgs_cons (pg_name (i := 3) scPour.nd rfl (.inl rfl)) (pgs_cons (pg_name (i := 4) scPour.nd rfl (.inl rfl)) pgs_nil))))
      (pss_cons (ps_set (i := 5) scPour.nd rfl (.inl rfl) (pe_op op_add pe_int (pe_call A1.G (hr.mono (by decide)) (by rfl) A1.g A1.F.kp A1.b .nil pass0 (pa_cons (pv 0) (pa_cons (pe_op op_sub
          (pe_callB (call_min2 rfl) (by rfl) mmi boot_min' (pa_cons (pv 2) (pa_cons (pe_callB call_len_seq (by rfl) ml boot_len' (pa_cons (pv 4) pa_nil)) pa_nil))) pe_int) pa_nil)))))
      (pss_cons (ps_set (i := 6) scPour.nd rfl (.inl rfl) (pe_callB cr_sorted (by rfl) ms boot_sorted' (pa_cons (pe_slice sl_list (pe_call M2.G (hr.mono (by decide)) (by rfl) M2.g M2.F.kp M2.b .nil pass0 (pa_cons (pv 0) (pa_cons
          (pe_listRg rfl (by rfl) mli (prg_1 (by rfl) mr (pe_callB call_len_seq (by rfl) ml boot_len' (pa_cons (pv 4) pa_nil)))) pa_nil))) po_none (po_some (pv 5))) pa_nil)))
      (pss_cons (ps_set (i := 7) scPour.nd rfl (.inl rfl) (pe_lst pa_nil))
      (pss_cons (ps_for PassesOwn.never rfl (pi_list (pv 6)) (pg_name (i := 8) scPour.nd rfl (.inl rfl))
        (pss_one (ps_set (i := 7) scPour.nd rfl (.inl rfl) (pe_op op_cat (pv 7) (pe_callTy call_list_of (by rfl) mli boot_list' (pa_cons (pe_ix ix_tup (pv 4) (pv 8) (fun _ _ => rfl)) pa_nil))))))
      (pss_one (ps_ret (pe_tup (pa_cons (pe_callTy call_tuple_of (by rfl) mt boot_tuple' (pa_cons (pv 6) pa_nil)) (pa_cons (pe_call D3.G hr (by rfl) D3.g D3.F.kp D3.b .nil pass0 (pa_cons (pv 0) (pa_cons (pv 3) (pa_cons (pv 5) (pa_cons (pv 7) pa_nil))))) pa_nil))))))))), ?_⟩
    have hst0 := hst
    obtain ⟨c, y, rfl, ec, hy⟩ := hst
    have hy0 := hy
    obtain ⟨d, vs, rfl, ed, hvs⟩ := hy
    have hvl := Paired.length hvs
    refine ⟨.ref c, rfl, c, _, rfl, SqT.of ec, rfl, .int b, [.ref d], rfl, .ref d, [], rfl, rfl, ?_⟩
    have hmin : (if ((vs.length : Nat) : Int) < m then ((vs.length : Nat) : Int) else m) = m ∨ (if ((vs.length : Nat) : Int) < m then ((vs.length : Nat) : Int) else m) = 2 := by
      by_cases h : ((vs.length : Nat) : Int) < m
      · rw [if_pos h]
        right
        omega
      · rw [if_neg h]
        exact .inl rfl
    refine ⟨.ref a, rfl, .int m, rfl, .ref d, rfl, d, _, rfl, .inr (SqT.of ed), m, _, rfl, _, _, rfl, rfl, a, a0, _, rfl, hd, ?_, ?_, fun H1 r1 dr1 h10 h1b => ?_⟩
    · rcases hmin with e | e
      · rw [e]; omega
      · rw [e]; decide
    · rcases hmin with e | e
      · rw [e]; omega
      · rw [e]; decide
    have hr1 : r1 < 2 := by
      rcases hmin with e | e
      · rw [e] at h1b; omega
      · rw [e] at h1b; omega
    have hr1b : 2 + r1 ≤ (bl.length : Int) := by
      by_cases h : ((vs.length : Nat) : Int) < m
      · rw [if_pos h] at h1b
        omega
      · rw [if_neg h] at h1b
        omega
    obtain ⟨mn, emn⟩ : ∃ mn : Nat, (2 : Int) + r1 = (mn : Int) := ⟨(2 + r1).toNat, by omega⟩
    refine ⟨_, _, rfl, rfl, ?_⟩
    dsimp only
    rw [emn]
    have ed1 := dr1.te _ _ ed
    refine ⟨.ref a, rfl, .ref d, rfl, d, _, rfl, .inr (SqT.of ed1), _, rfl, RgOk.of_le (by omega) (by omega) (by omega) (by omega), fun l nl => ?_⟩
    have sml := same_upd nl (o := .lst (rgV 0 ((vs.length : Nat) : Int)))
    refine ⟨a, a0, l, (((List.range vs.length).map fun i => ((i : Nat) : Int)).map V.int), rfl, dr1.dl.same sml, .inl (by rw [upd_same, rg_ints]), fun x hx H' _ => okv_ints x hx, by rw [List.length_map, List.length_map, List.length_range]; omega, fun H2 l2 ys dr2 nl2 el2 hpm => ?_⟩
    obtain ⟨ms', rfl, hms⟩ := perm_ints hpm
    refine ⟨.int (mn : Int), rfl, (mn : Int), rfl, l2, _, rfl, SqL.of el2, fun l3 nl3 => ?_⟩
    rw [cut_take, ← List.map_take]
    have hmsl : ms'.length = vs.length := by rw [hms.length_eq, List.length_map, List.length_range]
    have hnd : ms'.Nodup := by
      rw [hms.nodup_iff]
      rw [List.nodup_iff_pairwise_ne, List.pairwise_map]
      exact List.nodup_range.imp fun {a b} h e => h (Int.ofNat.inj e)
    refine ⟨l3, _, rfl, SqL.of upd_same, ?_, fun who r hwp hws nr => ?_⟩
    · rw [List.length_take]
      omega
    have hwl : who.length = mn := by
      rw [hwp.length_eq, List.length_take]
      omega
    have hwasc : who.Pairwise (· < ·) := le_asc hws (hwp.nodup_iff.mpr (hnd.sublist (List.take_sublist _ _)))
    have hwr : ∀ k ∈ who, 0 ≤ k ∧ k < (bl.length : Int) := fun k hk => by
      have h1 := List.mem_of_mem_take (hwp.mem_iff.mp hk)
      have h2 := hms.mem_iff.mp h1
      obtain ⟨i, hi, rfl⟩ := List.mem_map.mp h2
      have := List.mem_range.mp hi
      omega
    have dr3 := ((dr1.same sml).trans dr2).same ((same_upd nl3 (o := .lst ((ms'.take mn).map V.int))).trans (same_upd nr (o := .lst (who.map V.int))))
    have er : (upd (upd H2 l3 (.lst ((ms'.take mn).map V.int))) r (.lst (who.map V.int))) r = some (.lst (who.map V.int)) := upd_same
    generalize (upd (upd H2 l3 (.lst ((ms'.take mn).map V.int))) r (.lst (who.map V.int))) = H3 at dr3 er
    refine ⟨Nat.zero_le _, fun o no => ?_⟩
    have smo := same_upd no (o := .lst [])
    refine ⟨.ref r, rfl, r, rfl, ⟨_, SqL.of (smo _ _ er)⟩, ?_⟩
    refine for_list (xs := who.map V.int) (fun i σ H' => ∃ (g : Addr) (v8 : Option V) (recs : List Int), σ = [some (.ref a), some (.ref c), some (.int m), some (.int b), some (.ref d), some (.int (mn : Int)), some (.ref r), some (.ref g), v8] ∧ Same H3 H' ∧ H' g = some (.lst (recs.map V.int)) ∧ (∀ n ∈ recs, 0 ≤ n ∧ n < 64) ∧ recs.length ≤ b * i)
      ⟨o, none, [], rfl, smo, upd_same, fun n hn => absurd hn List.not_mem_nil, Nat.zero_le _⟩ (fun i σ H' _ hP => by obtain ⟨_, _, _, _, sm, _⟩ := hP; exact SqL.of (sm _ _ er)) (fun i z σ H' hz hP => ?_) fun σ H' hP => ?_
    · obtain ⟨g, v8, recs, rfl, sm, eg, hrr, hrl⟩ := hP
      obtain ⟨k, hk, rfl⟩ := map_some hz
      have hkm := hwr k (List.mem_of_getElem? hk)
      have hi : i < mn := by
        have := (List.getElem?_eq_some_iff.mp hk).1
        omega
      have hkl : k.toNat < bl.length := by omega
      obtain ⟨pv, hpv, hpi⟩ := paired_get1 hvs (List.getElem?_eq_getElem hkl)
      have hpi' := (hpi.te dr3.te).te (TE2.of sm)
      obtain ⟨e, rfl, ee⟩ := hpi'
      have hob := hok _ (List.getElem_mem hkl)
      refine ⟨.ref g, rfl, .ref d, rfl, .int k, rfl, d, _, k, .ref e, rfl, rfl, SqT.of (sm _ _ (dr3.te _ _ ed)), atI_of hkm.1 hpv, e, _, rfl, .inr (SqT.of ee), fun l4 nl4 => ?_⟩
      have sm4 := same_upd nl4 (o := .lst (bl[k.toNat].map V.int))
      refine ⟨g, l4, _, _, rfl, rfl, sm4 _ _ eg, upd_same, ?_, fun l5 nl5 => ?_⟩
      · rw [List.length_map, List.length_map]
        have h1 := hob.1
        have h2 : b * i ≤ 3 * 3 := Nat.mul_le_mul hb3 (by omega)
        exact le_line (m := 100) (by omega) (by decide)
      · refine ⟨l5, _, recs ++ bl[k.toNat], rfl, (sm.trans sm4).trans (same_upd nl5), ?_, fun n hn => ?_, ?_⟩
        · rw [upd_same, List.map_append]
        · rcases List.mem_append.mp hn with hn | hn
          · exact hrr n hn
          · exact hob.2 n hn
        · rw [List.length_append, Nat.mul_succ]
          have := hob.1
          omega
    · obtain ⟨g, v8, recs, rfl, sm, eg, hrr, hrl⟩ := hP
      rw [List.length_map, hwl] at hrl
      refine ⟨.ref r, rfl, r, _, rfl, .inl ⟨SqL.of (sm _ _ er), fun t nt => ?_⟩⟩
      have smt := same_upd nt (o := .tup (who.map V.int))
      have dr4 := (dr3.same sm).same smt
      refine ⟨.ref a, rfl, .int b, rfl, .int (mn : Int), rfl, .ref g, rfl, a, a0, g, b, mn, recs, rfl, dr4.dl, hb3, by omega, smt _ _ eg, hrr, hrl, fun H5 v bl5 dr5 hv hvl5 hvok => ?_⟩
      refine ⟨by show 2 ≤ sizeLine; decide, fun t2 nt2 => ?_⟩
      have smt2 := same_upd nt2 (o := .tup [.ref t, v])
      refine q _ (.ref t2) (who, bl5) ((dr4.trans dr5).same smt2) ⟨t2, .ref t, v, rfl, upd_same, ⟨t, rfl, smt2 _ _ (dr5.te _ _ upd_same)⟩, hv.te (TE2.of smt2)⟩ ⟨hwasc, hwr, by rw [hvl5, hwl], by rw [hwl]; omega, fun part hp => ⟨Nat.le_trans (hvok part hp).1 hb3, (hvok part hp).2⟩⟩ hvok
end
end K66
namespace K66
open PySem PySem.Spec PyProof.Rows L2
abbrev nPoured : List Str := ["_law_standing_here", "_law_pour_here", "_law_blocks", "_law_at", "_law_part"]
theorem scPoured : FnScope nPoured ["_law_standing_here", "_law_pour_here"] (defScope dPoured) := ⟨rfl, rfl, rfl, by decide +kernel, rfl, by decide +kernel, by decide +kernel⟩
abbrev nRow : List Str := ["_law_deal", "_law_standing_here", "_law_m", "_law_many", "_law_found", "_law_turn", "_law_pour_here"]
theorem scRow : FnScope nRow ["_law_deal", "_law_standing_here", "_law_m", "_law_many"] (defScope dRow) := ⟨rfl, rfl, rfl, by decide +kernel, rfl, by decide +kernel, by decide +kernel⟩
abbrev nLApart : List Str := ["_law_one", "_law_other", "_law_block"]
theorem scLApart : FnScope nLApart ["_law_one", "_law_other"] (defScope dLApart) := ⟨rfl, rfl, rfl, by decide +kernel, rfl, by decide +kernel, by decide +kernel⟩
abbrev nBehind : List Str := ["_law_standing_here", "_law_row_here", "_law_pour_here"]
theorem scBehind : FnScope nBehind ["_law_standing_here", "_law_row_here"] (defScope dBehind) := ⟨rfl, rfl, rfl, by decide +kernel, rfl, by decide +kernel, by decide +kernel⟩
theorem paired_set {α β : Type} {R : α → β → Prop} {a : α} {b : β} (r : R a b) : ∀ {as : List α} {bs : List β} {j : Nat}, Paired R as bs → Paired R (as.set j a) (bs.set j b)
  | _, _, _, .nil => .nil
  | _, _, 0, .cons _ t => .cons r t
  | _, _, _ + 1, .cons h t => .cons h (paired_set r t)
theorem setAll_snoc (bl : List (List Int)) (l : List (Int × List Int)) (x : Int × List Int) : setAll bl (l ++ [x]) = (setAll bl l).set x.1.toNat x.2 := by
  unfold setAll
  rw [List.foldl_append]
  rfl
theorem setAll_mem : ∀ (l : List (Int × List Int)) (bl : List (List Int)) (x : List Int), x ∈ setAll bl l → x ∈ bl ∨ ∃ e ∈ l, x = e.2
  | [], _, _, h => .inl h
  | e :: l, bl, x, h => by
    rcases setAll_mem l (bl.set e.1.toNat e.2) x h with h | ⟨e', he, q⟩
    · rcases List.mem_or_eq_of_mem_set h with h | h
      · exact .inl h
      · exact .inr ⟨e, List.mem_cons_self, h⟩
    · exact .inr ⟨e', List.mem_cons_of_mem _ he, q⟩
theorem pourB_mem {bl : List (List Int)} {p : Pour} {x : List Int} (h : x ∈ pourB bl p) : x ∈ bl ∨ x ∈ p.2 := by
  rcases setAll_mem _ _ _ h with h | ⟨e, he, q⟩
  · exact .inl h
  · right
    rw [q]
    exact (List.of_mem_zip he).2
theorem ixN_int {n : Nat} {k : Int} (h0 : 0 ≤ k) (h1 : k < (n : Int)) : ixN n k = some k.toNat := by
  unfold ixN
  rw [if_pos h0, if_pos h1]
structure PouredP (P : Program) (w : World) (K : PySem.W.Frag) (mg : Str → Option Value) (base : Heap) (k : Nat) (f : Addr) (fd : FuncData) (sp : Sp) : Prop where
  F : Fun K "_law_poured" "_law_poured" dPoured f fd
  G : FnOk P w K mg base CX0 k f fd ["_law_standing_here", "_law_pour_here"] sp
  b : Binds K fd ["_law_standing_here", "_law_pour_here"] []
  g : mg "_law_poured" = some (.ref f)
structure PourP (P : Program) (w : World) (K : PySem.W.Frag) (mg : Str → Option Value) (base : Heap) (k : Nat) (f : Addr) (fd : FuncData) : Prop where
  F : Fun K "_law_pour" "_law_pour" dPour f fd
  G : FnOk P w K mg base CX0 k f fd ["_law_deal", "_law_standing_here", "_law_m"] spPour
  b : Binds K fd ["_law_deal", "_law_standing_here", "_law_m"] []
  g : mg "_law_pour" = some (.ref f)
section
variable {P : Program} {w : World} {K : PySem.W.Frag} {mg : Str → Option Value} {base : Heap}
/-! ### _law_poured -/
def spPoured : Sp := fun vs H Q _ => ∃ (x y : V) (b : Int) (bl : List (List Int)) (p : Pour), vs = [x, y] ∧ StandT H x b bl ∧ PourT H y p ∧ Good bl.length p ∧ ∀ (H' : Hp) (v : V), Same H H' → StandT H' v b (pourB bl p) → Q v H'
theorem ok_poured {f : Addr} {fd : FuncData} {k : Nat} (F : Fun K "_law_poured" "_law_poured" dPoured f fd) (mli : mg "list" = none) (mz : mg "zip" = none) (mt : mg "tuple" = none) : FnOk P w K mg base CX0 (k + 1) f fd ["_law_standing_here", "_law_pour_here"] spPoured := by
  refine F.ok scPoured (fun vs H Q E h => ?_) (fun cdv A outer s H vs Q E hr h => ?_)
  · obtain ⟨x, y, b, bl, p, rfl, _⟩ := h
    rfl
  · obtain ⟨x, y, b, bl, p, rfl, hx, hy, gp, q⟩ := h
    refine ⟨_, pss_cons (ps_set (i := 2) scPoured.nd rfl (.inl rfl) (pe_callTy call_list_of (by rfl) mli boot_list' (pa_cons (pe_ix ix_tup (pv 0) pe_int (fun _ _ => rfl)) pa_nil)))
      (pss_cons (ps_for PassesOwn.never rfl (RZ.pi_zipA (by rfl) mz (pa_cons (pe_ix ix_tup (pv 1) pe_int (fun _ _ => rfl)) (pa_cons (pe_ix ix_tup (pv 1) pe_int (fun _ _ => rfl)) pa_nil)))
          (pg_tup rfl (pgs_cons (pg_name (i := 3) scPoured.nd rfl (.inl rfl)) (pgs_cons (pg_name (i := 4) scPoured.nd rfl (.inl rfl)) pgs_nil)))
        (pss_one (ps_asg (pv 4) (pg_sub (pv 2) (pv 3) set_list))))
      (pss_one (ps_ret (pe_tup (pa_cons (pe_ix ix_tup (pv 0) pe_int (fun _ _ => rfl)) (pa_cons (pe_callTy call_tuple_of (by rfl) mt boot_tuple' (pa_cons (pv 2) pa_nil)) pa_nil)))))), ?_⟩
    obtain ⟨c, y', rfl, ec, ⟨d, vs, rfl, ed, hvs⟩⟩ := hx
    obtain ⟨e, z1, z2, rfl, ee, ⟨e1, rfl, ee1⟩, ⟨e2, us, rfl, ee2, hus⟩⟩ := hy
    have hul := Paired.length hus
    have hvl := Paired.length hvs
    refine ⟨.ref c, rfl, c, _, 1, _, rfl, rfl, SqT.of ec, atI_nat (j := 1) rfl, d, vs, rfl, .inr (SqT.of ed), fun o no => ?_⟩
    have s1 := same_upd no (o := .lst vs)
    refine ⟨.ref e, rfl, e, _, 0, _, rfl, rfl, SqT.of (s1 _ _ ee), atI_nat (j := 0) rfl, .ref e, rfl, e, _, 1, _, rfl, rfl, SqT.of (s1 _ _ ee), atI_nat (j := 1) rfl, e1, e2, p.1.map V.int, us, rfl, .inr ⟨SqT.of (s1 _ _ ee1), SqT.of (s1 _ _ ee2), ?_⟩⟩
    refine RZ.for_zipT (xs := p.1.map V.int) (ys := us) (by rw [List.length_map, hul, gp.len]) (fun i σ H' => ∃ v3 v4 vs', σ = [some (.ref c), some (.ref e), some (.ref o), v3, v4] ∧ Same H H' ∧ H' o = some (.lst vs') ∧ Paired (IntsT H') vs' (setAll bl ((p.1.zip p.2).take i)))
      ⟨none, none, vs, rfl, s1, upd_same, parts_te (TE2.of s1) hvs⟩ (fun i σ H' hP => by obtain ⟨_, _, _, _, sm, _⟩ := hP; exact ⟨SqT.of (sm _ _ ee1), SqT.of (sm _ _ ee2)⟩) (fun i k v T σ H' hk hv hP nT => ?_) fun σ H' hP => ?_
    · obtain ⟨v3, v4, vs', rfl, sm, eo, hvs'⟩ := hP
      obtain ⟨kk, hkk, rfl⟩ := map_some hk
      obtain ⟨part, hpart, hvp⟩ := paired_get2 hus hv
      have hkr := gp.rng kk (List.mem_of_getElem? hkk)
      have smT := same_upd nT (o := .tup [.int kk, v])
      have hl' := Paired.length hvs'
      rw [setAll_length] at hl'
      refine ⟨T, [.int kk, v], rfl, SqT.of upd_same, rfl, .int kk, [v], rfl, v, [], rfl, rfl, v, rfl, .ref o, rfl, .int kk, rfl, o, _, kk, kk.toNat, rfl, rfl, smT _ _ eo, ixN_int hkr.1 (by rw [hl']; exact hkr.2), ?_⟩
      have teT : TE2 H' (upd (upd H' T (.tup [.int kk, v])) o (.lst (vs'.set kk.toNat v))) := (TE2.of smT).trans (te_put (smT _ _ eo))
      refine ⟨_, _, _, rfl, same_put (sm.trans smT) no, upd_same, ?_⟩
      have ez : (p.1.zip p.2)[i]? = some (kk, part) := by
        rw [List.getElem?_zip_eq_some]
        exact ⟨hkk, hpart⟩
      rw [List.take_add_one, ez]
      show Paired _ _ (setAll bl ((p.1.zip p.2).take i ++ [(kk, part)]))
      rw [setAll_snoc]
      exact paired_set ((hvp.te (TE2.of sm)).te teT) (parts_te teT hvs')
    · obtain ⟨v3, v4, vs', rfl, sm, eo, hvs'⟩ := hP
      have hz : (p.1.zip p.2).length ≤ (p.1.map V.int).length := by
        rw [List.length_zip, List.length_map]
        exact Nat.min_le_left _ _
      rw [List.take_of_length_le hz] at hvs'
      refine ⟨.ref c, rfl, c, _, 0, .int b, rfl, rfl, SqT.of (sm _ _ ec), atI_nat (j := 0) rfl, .ref o, rfl, o, _, rfl, .inl ⟨SqL.of eo, fun t nt => ?_⟩⟩
      refine ⟨by show 2 ≤ sizeLine; decide, fun t2 nt2 => ?_⟩
      have smt := same_upd nt (o := .tup vs')
      have smt2 := same_upd nt2 (o := .tup [.int b, .ref t])
      exact q _ (.ref t2) ((sm.trans smt).trans smt2) ⟨t2, .ref t, rfl, upd_same, ⟨t, vs', rfl, smt2 _ _ upd_same, parts_te (TE2.of (smt.trans smt2)) hvs'⟩⟩
/-! ### _law_row -/
def spRow : Sp := fun vs H Q _ => ∃ (a a0 : Addr) (x : V) (m : Int) (b many : Nat) (bl : List (List Int)), vs = [.ref a, x, .int m, .int many] ∧ Dl H a a0 ∧ StandT H x b bl ∧ b ≤ 3 ∧ 2 ≤ bl.length ∧ bl.length ≤ 8 ∧ (∀ part ∈ bl, Okp b part) ∧ 2 ≤ m ∧ m ≤ 3 ∧ many ≤ 8 ∧
  ∀ (H' : Hp) (v : V) (row : Row), Dr a a0 H H' → RowT H' v row → (∀ p ∈ row, Good bl.length p) → row.length = many → Q v H'
theorem ok_row {f fP fQ : Addr} {fd fdP fdQ : FuncData} (F : Fun K "_law_row" "_law_row" dRow f fd) (P4 : PourP P w K mg base 4 fP fdP) (Q1 : PouredP P w K mg base 1 fQ fdQ spPoured)
    (mr : mg "range" = none) (mt : mg "tuple" = none) : FnOk P w K mg base CX0 5 f fd ["_law_deal", "_law_standing_here", "_law_m", "_law_many"] spRow := by
  refine F.ok scRow (fun vs H Q E h => ?_) (fun cdv A outer s H vs Q E hr h => ?_)
  · obtain ⟨a, a0, x, m, b, many, bl, rfl, _⟩ := h
    rfl
  · obtain ⟨a, a0, x, m, b, many, bl, rfl, hd, hst, hb3, hl2, hl8, hok, hm2, hm3, hmany, q⟩ := h
    refine ⟨_, pss_cons (ps_set (i := 4) scRow.nd rfl (.inl rfl) (pe_lst pa_nil))
      (pss_cons (ps_for PassesOwn.never rfl (pi_range1 (by rfl) mr (pa_cons (pv 3) pa_nil)) (pg_name (i := 5) scRow.nd rfl (.inl rfl))
        (pss_cons (ps_set (i := 6) scRow.nd rfl (.inl rfl) (pe_call P4.G hr (by rfl) P4.g P4.F.kp P4.b .nil pass0 (pa_cons (pv 0) (pa_cons (pv 1) (pa_cons (pv 2) pa_nil)))))
        (pss_cons (ps_expr (pe_bm PySem.F.plainAttrs_list PySem.F.slot_list_append PySem.F.type_list_append mt_append (pv 4) (pa_cons (pv 6) pa_nil)))
        (pss_one (ps_set (i := 1) scRow.nd rfl (.inl rfl) (pe_call Q1.G (hr.mono (by decide)) (by rfl) Q1.g Q1.F.kp Q1.b .nil pass0 (pa_cons (pv 1) (pa_cons (pv 6) pa_nil))))))))
      (pss_one (ps_ret (pe_callTy call_tuple_of (by rfl) mt boot_tuple' (pa_cons (pv 4) pa_nil))))), ?_⟩
    refine ⟨Nat.zero_le _, fun o no => ?_⟩
    have s1 := same_upd no (o := .lst [])
    have eman : ((many : Int)).toNat = many := Int.toNat_natCast many
    refine ⟨.int many, rfl, (many : Int), rfl, by omega, by omega, ?_⟩
    refine for_range (lo := 0) (n := many) (fun i σ H' => ∃ (v1 : V) (v5 v6 : Option V) (bl' : List (List Int)) (vs : List V) (row : Row), σ = [some (.ref a), some v1, some (.int m), some (.int many), some (.ref o), v5, v6] ∧ Dr a a0 H H' ∧ StandT H' v1 b bl' ∧ bl'.length = bl.length ∧ (∀ part ∈ bl', Okp b part) ∧ H' o = some (.lst vs) ∧ Paired (PourT H') vs row ∧ row.length = i ∧ ∀ p ∈ row, Good bl.length p)
      ⟨x, none, none, bl, [], [], rfl, Dr.of hd s1, hst.te (TE2.of s1), rfl, hok, upd_same, .nil, rfl, fun p hp => absurd hp List.not_mem_nil⟩ (fun i σ H' hi hP => ?_) fun σ H' hP => ?_
    · obtain ⟨v1, v5, v6, bl', vs, row, rfl, dr, hst', hbl', hok', eo, hvs, hrl, hg⟩ := hP
      have hvl := Paired.length hvs
      refine ⟨.ref a, rfl, v1, rfl, .int m, rfl, a, a0, v1, m, b, bl', rfl, dr.dl, hst', hb3, by omega, by omega, hok', hm2, hm3, fun H2 v p dr2 hvp gp hpo => ?_⟩
      have eo2 : H2 o = some (.lst vs) := dr2.own hd no eo
      refine ⟨.ref o, rfl, .inl ⟨rfl, _, SqL.of eo2⟩, v, rfl, o, _, _, rfl, rfl, eo2, lt_line (m := 100) (by omega) (by decide), ?_⟩
      have te3 := te_put (o := .lst (vs ++ [v])) eo2
      refine ⟨v1, rfl, v, rfl, v1, v, b, bl', p, rfl, (hst'.te dr2.te).te te3, hvp.te te3, gp, fun H4 u sm4 hu => ?_⟩
      refine ⟨u, _, _, pourB bl' p, vs ++ [v], row ++ [p], rfl, ((dr.trans dr2).put no).same sm4, hu, by rw [pourB_length]; exact hbl', fun part hp => ?_, sm4 _ _ upd_same, ?_, by rw [List.length_append, hrl]; rfl, fun p' hp' => ?_⟩
      · rcases pourB_mem hp with h | h
        · exact hok' part h
        · exact hpo part h
      · exact Paired.snoc (pours_te ((dr2.te.trans te3).trans (TE2.of sm4)) hvs) (hvp.te (te3.trans (TE2.of sm4)))
      · rcases List.mem_append.mp hp' with h | h
        · exact hg p' h
        · rw [List.mem_singleton.mp h, ← hbl']
          exact gp
    · obtain ⟨v1, v5, v6, bl', vs, row, rfl, dr, hst', hbl', hok', eo, hvs, hrl, hg⟩ := hP
      refine ⟨.ref o, rfl, o, _, rfl, .inl ⟨SqL.of eo, fun t nt => ?_⟩⟩
      exact q _ (.ref t) row (dr.same (same_upd nt)) ⟨t, vs, rfl, upd_same, pours_te (te_new nt) hvs⟩ hg hrl
/-! ### _law_apart -/
theorem ok_lapart {f : Addr} {fd : FuncData} {k : Nat} (F : Fun K "_law_apart" "_law_apart" dLApart f fd) : FnOk P w K mg base CX0 (k + 1) f fd ["_law_one", "_law_other"] spApart := by
  refine F.ok scLApart (fun vs H Q E h => ?_) (fun cdv A outer s H vs Q E hr h => ?_)
  · obtain ⟨x, y, p, q, rfl, _⟩ := h
    rfl
  · obtain ⟨x, y, p, q, rfl, hx, hy, gp, qq⟩ := h
    refine ⟨_, pss_one (ps_ret (pe_cmpR (op_eqD hr.units) (pe_lc (own := [("_law_block", 2)]) (g := gName 2) rfl scLApart.nd (pi_tup (pe_ix ix_tup (pv 0) pe_int (fun _ _ => rfl)))
      (blkOk_by (N := nLApart) (sc := defScope dLApart) (by decide +kernel)) (fun _ _ _ _ _ => pg_name (i := 2) scLApart.nd rfl (Or.inl rfl))
      (fun _ _ _ _ _ => pts_one (pt_cmpR (r := rIn K false) op_in_seq (pv 2) (pe_ix (r := rIxT K) ix_tup (pv 1) pe_int (fun _ _ => rfl)) rfl))
      (fun _ _ _ _ _ => pv 2)) (pe_lst pa_nil) (nomark _))), ?_⟩
    obtain ⟨a, x1, x2, rfl, ea, ⟨a1, rfl, ea1⟩, _⟩ := hx
    obtain ⟨b, y1, y2, rfl, eb, ⟨b1, rfl, eb1⟩, _⟩ := hy
    refine ⟨.ref a, rfl, a, _, 0, _, rfl, rfl, SqT.of ea, atI_nat (j := 0) rfl, a1, rfl, ⟨_, SqT.of ea1⟩, fun D hD => ?_⟩
    have s1 : Same H (upd H D (.lst [])) := same_upd hD
    refine lc_tup (K := K) (a := a1) (xs := p.1.map V.int) (fun i H' => Same H H' ∧ H' D = some (.lst (((p.1.take i).filter fun b => q.1.contains b).map V.int))) ⟨s1, upd_same⟩ (fun i H' hi hP => SqT.of (hP.1 _ _ ea1)) (fun i z H' hz hP => ?_) fun H' hP => ?_
    · obtain ⟨sm, eD⟩ := hP
      obtain ⟨n, hn, rfl⟩ := map_some hz
      refine ⟨rfl, ?_⟩
      refine ⟨.int n, rfl, .ref b, rfl, b, _, 0, _, rfl, rfl, SqT.of (sm _ _ eb), atI_nat (j := 0) rfl, b1, _, rfl, .inr (SqT.of (sm _ _ eb1)), rfl, flat_ints _, _, rfl, ?_⟩
      rw [in_ints]
      have htk : (p.1.take (i + 1)).filter (fun b => q.1.contains b) = (p.1.take i).filter (fun b => q.1.contains b) ++ [n].filter (fun b => q.1.contains b) := by
        rw [List.take_add_one, hn, List.filter_append]
        rfl
      cases hc : q.1.contains n with
      | true =>
        refine iteT ⟨.int n, rfl, _, eD, ?_, same_put sm hD, ?_⟩
        · rw [List.length_map]
          exact lt_line (Nat.le_trans (List.length_filter_le _ _) (take_le _ _)) gp.who1000
        · rw [upd_same, htk, List.map_append, List.filter_cons_of_pos hc]
          rfl
      | false =>
        refine iteF ⟨sm, ?_⟩
        rw [eD, htk, List.filter_cons_of_neg (by rw [hc]; exact Bool.false_ne_true), List.filter_nil, List.append_nil]
    · obtain ⟨sm, eD⟩ := hP
      rw [List.length_map, List.take_length] at eD
      refine ⟨Nat.zero_le _, fun o no => ?_⟩
      have sm2 := same_upd no (o := .lst [])
      refine eqNil (sm2 _ _ eD) upd_same okv_ints ?_
      have e : decide (((p.1.filter fun b => q.1.contains b).map V.int) = []) = apart p q := by
        unfold apart
        rw [Bool.eq_iff_iff]
        simp
      rw [e]
      exact qq _ (sm.trans sm2)
/-! ### _law_behind -/
def spBehind : Sp := fun vs H Q _ => ∃ (x y : V) (b : Int) (bl : List (List Int)) (row : Row), vs = [x, y] ∧ StandT H x b bl ∧ RowT H y row ∧ (∀ p ∈ row, Good bl.length p) ∧ ∀ (H' : Hp) (v : V), Same H H' → StandT H' v b (behindB bl row) → Q v H'
theorem behind_len (bl : List (List Int)) : ∀ row : Row, (behindB bl row).length = bl.length := fun row => by
  unfold behindB
  induction row generalizing bl with
  | nil => rfl
  | cons p r ih => rw [List.foldl_cons, ih, pourB_length]
theorem ok_behind {f fQ : Addr} {fd fdQ : FuncData} (F : Fun K "_law_behind" "_law_behind" dBehind f fd) (Q1 : PouredP P w K mg base 1 fQ fdQ spPoured) : FnOk P w K mg base CX0 2 f fd ["_law_standing_here", "_law_row_here"] spBehind := by
  refine F.ok scBehind (fun vs H Q E h => ?_) (fun cdv A outer s H vs Q E hr h => ?_)
  · obtain ⟨x, y, b, bl, row, rfl, _⟩ := h
    rfl
  · obtain ⟨x, y, b, bl, row, rfl, hx, hy, good, q⟩ := h
    refine ⟨_, pss_cons (ps_for PassesOwn.never rfl (pi_tup (pv 1)) (pg_name (i := 2) scBehind.nd rfl (.inl rfl))
        (pss_one (ps_set (i := 0) scBehind.nd rfl (.inl rfl) (pe_call Q1.G hr (by rfl) Q1.g Q1.F.kp Q1.b .nil pass0 (pa_cons (pv 0) (pa_cons (pv 2) pa_nil))))))
      (pss_one (ps_ret (pv 0))), ?_⟩
    obtain ⟨a, ps, rfl, ea, hps⟩ := hy
    have hpl := Paired.length hps
    refine ⟨.ref a, rfl, a, rfl, ⟨_, SqT.of ea⟩, ?_⟩
    refine for_tup (xs := ps) (fun i σ H' => ∃ v0 v2, σ = [some v0, some (.ref a), v2] ∧ Same H H' ∧ StandT H' v0 b (behindB bl (row.take i))) ⟨x, none, rfl, fun _ _ e => e, hx⟩
      (fun i σ H' _ hP => by obtain ⟨_, _, _, sm, _⟩ := hP; exact SqT.of (sm _ _ ea)) (fun i y σ H' hy hP => ?_) fun σ H' hP => ?_
    · obtain ⟨v0, v2, rfl, sm, hst⟩ := hP
      obtain ⟨p, hp, hyp⟩ := paired_get2 hps hy
      refine ⟨v0, rfl, y, rfl, v0, y, b, _, p, rfl, hst, hyp.te (TE2.of sm), by rw [behind_len]; exact good p (List.mem_of_getElem? hp), fun H2 v sm2 hv => ?_⟩
      refine ⟨v, _, rfl, sm.trans sm2, ?_⟩
      have e : behindB bl (row.take (i + 1)) = pourB (behindB bl (row.take i)) p := by
        unfold behindB
        rw [List.take_add_one, hp, List.foldl_append]
        rfl
      rw [e]
      exact hv
    · obtain ⟨v0, v2, rfl, sm, hst⟩ := hP
      rw [hpl, List.take_length] at hst
      exact ⟨v0, rfl, q _ v0 sm hst⟩
end
end K66
namespace K66
open PySem PySem.Spec PyProof.Rows L2
abbrev nTurns : List Str := ["_law_row_here", "_law_found", "_law_at", "_law_ahead", "_law_before"]
theorem scTurns : FnScope nTurns ["_law_row_here"] (defScope dTurns) := ⟨rfl, rfl, rfl, by decide +kernel, rfl, by decide +kernel, by decide +kernel⟩
abbrev nIsRow : List Str := ["_law_standing_here", "_law_row_here", "_law_pour_here", "_law_ahead", "_law_behind_here", "_law_at", "_law_part"]
theorem scIsRow : FnScope nIsRow ["_law_standing_here", "_law_row_here"] (defScope dIsRow) := ⟨rfl, rfl, rfl, by decide +kernel, rfl, by decide +kernel, by decide +kernel⟩
structure LApartP (P : Program) (w : World) (K : PySem.W.Frag) (mg : Str → Option Value) (base : Heap) (k : Nat) (f : Addr) (fd : FuncData) : Prop where
  F : Fun K "_law_apart" "_law_apart" dLApart f fd
  G : FnOk P w K mg base CX0 k f fd ["_law_one", "_law_other"] spApart
  b : Binds K fd ["_law_one", "_law_other"] []
  g : mg "_law_apart" = some (.ref f)
section
variable {P : Program} {w : World} {K : PySem.W.Frag} {mg : Str → Option Value} {base : Heap}
/-! ### _law_turns -/
def spTurns : Sp := fun vs H Q _ => ∃ (x : V) (row : Row), vs = [x] ∧ RowT H x row ∧ (∀ p ∈ row, Good 8 p) ∧ row.length ≤ 100 ∧ ∀ (H' : Hp) (l : Addr), Same H H' → H l = none → H' l = some (.lst ((rounds row).map V.int)) → Q (.ref l) H'
theorem ok_turns {f fA : Addr} {fd fdA : FuncData} (F : Fun K "_law_turns" "_law_turns" dTurns f fd) (A1 : LApartP P w K mg base 1 fA fdA)
    (ml : mg "len" = none) (mm : mg "max" = none) (mr : mg "range" = none) : FnOk P w K mg base CX0 2 f fd ["_law_row_here"] spTurns := by
  refine F.ok scTurns (fun vs H Q E h => ?_) (fun cdv A outer s H vs Q E hr h => ?_)
  · obtain ⟨x, row, rfl, _⟩ := h
    rfl
  · obtain ⟨x, row, rfl, hx, good, hlen, q⟩ := h
    refine ⟨_, pss_cons (ps_set (i := 1) scTurns.nd rfl (.inr rfl) (pe_lst pa_nil))
      (pss_cons (ps_for PassesOwn.never rfl (pi_range1 (by rfl) mr (pa_cons (pe_callB call_len_seq (by rfl) ml boot_len' (pa_cons (pv 0) pa_nil)) pa_nil)) (pg_name (i := 2) scTurns.nd rfl (.inr rfl))
        (pss_cons (ps_setLc (i := 3) (own := [("_law_before", 4)]) (g := gName 4) rfl scTurns.nd rfl rfl (by rfl) (pi_range1 (by rfl) mr (pa_cons (pv 2) pa_nil)) (blkOk_by (N := nTurns) (sc := defScope dTurns) (by decide +kernel)) (fun _ _ _ _ _ => pg_name (i := 4) scTurns.nd rfl (Or.inl rfl))
              (fun _ _ _ _ _ => pts_one (pt_not (pt_val (pe_call (E := E0) (dvs := []) (ds := []) (sp := spApart) A1.G hr (by rfl) A1.g A1.F.kp A1.b .nil pass0 (pa_cons (pe_ix (r := rIxT K) ix_tup (pv 0) (pv 4) (fun _ _ => rfl)) (pa_cons (pe_ix (r := rIxT K) ix_tup (pv 0) (pv 2) (fun _ _ => rfl)) pa_nil))))))
              (fun _ _ _ _ _ => pe_op (r := rI0 fun i j => .int (i + j)) op_add (pe_ix (r := rIxL K) ix_list (pv 1) (pv 4) (fun _ _ => rfl)) pe_int))
        (pss_one (ps_expr (pe_bm PySem.F.plainAttrs_list PySem.F.slot_list_append PySem.F.type_list_append mt_append (pv 1) (pa_cons
          (pe_callB (cr_max rfl) (by rfl) mm boot_max' (pa_cons (pe_op op_cat (pe_lst (pa_cons pe_int pa_nil)) (pv 3)) pa_nil)) pa_nil))))))
      (pss_one (ps_ret (pv 1)))), ?_⟩
    obtain ⟨a, ps, rfl, ea, hps⟩ := hx
    have hpl := Paired.length hps
    refine ⟨Nat.zero_le _, fun o no => ?_⟩
    have s1 : Same H (upd H o (.lst [])) := same_upd no
    refine ⟨.ref a, rfl, a, ps, rfl, .inr (SqT.of (s1 _ _ ea)), ((ps.length : Nat) : Int), rfl, by omega, by omega, ?_⟩
    refine for_range (lo := 0) (n := ps.length) (fun i σ H' => ∃ v2 v3 v4, σ = [some (.ref a), some (.ref o), v2, v3, v4] ∧ Same H H' ∧ H' o = some (.lst ((rounds (row.take i)).map V.int))) ⟨none, none, none, rfl, s1, upd_same⟩ (fun i σ H' hi hP => ?_) fun σ H' hP => ?_
    · obtain ⟨v2, v3, v4, rfl, sm, eo⟩ := hP
      obtain ⟨p, hp, hyp⟩ := paired_get2 hps (List.getElem?_eq_getElem hi)
      have hi2 : i < row.length := (List.getElem?_eq_some_iff.mp hp).1
      have gp : Good 8 p := good p (List.mem_of_getElem? hp)
      refine ⟨.int (0 + (i : Nat)), rfl, (0 + (i : Int)), rfl, by omega, by omega, fun D hD => ?_⟩
      have eti : (0 + (i : Int)).toNat = i := by omega
      have hA : ((row.take i).zip (rounds (row.take i))).length = i := by
        rw [List.length_zip, rounds_length, Nat.min_self, List.length_take]
        omega
      rw [eti]
      refine lc_range (lo := 0) (n := i) (fun j H4 => Same H' H4 ∧ H4 D = some (.lst ((aheadOf (((row.take i).zip (rounds (row.take i))).take j) p).map V.int))) ⟨same_upd hD, upd_same⟩ (fun j H4 hj hP4 => ?_) fun H4 hP4 => ?_
      · obtain ⟨sm4, eD4⟩ := hP4
        have hjr : j < row.length := by omega
        have ej : row[j]? = some row[j] := List.getElem?_eq_getElem hjr
        obtain ⟨yj, hyj, hpj⟩ := paired_get1 hps ej
        have hjr2 : j < (rounds (row.take i)).length := by
          rw [rounds_length, List.length_take]
          omega
        have er : (rounds (row.take i))[j]? = some (rounds (row.take i))[j] := List.getElem?_eq_getElem hjr2
        have ez : ((row.take i).zip (rounds (row.take i)))[j]? = some (row[j], (rounds (row.take i))[j]) := by
          rw [List.getElem?_zip_eq_some, List.getElem?_take_of_lt hj]
          exact ⟨ej, er⟩
        refine ⟨rfl, ?_⟩
        have te34 : TE2 H H4 := TE2.of (sm.trans sm4)
        refine ⟨.ref a, rfl, .int (0 + (j : Nat)), rfl, a, ps, _, yj, rfl, rfl, SqT.of (te34 _ _ ea), atI_0 hyj, .ref a, rfl, .int (0 + (i : Nat)), rfl, a, ps, _, ps[i], rfl, rfl, SqT.of (te34 _ _ ea), atI_0 (List.getElem?_eq_getElem hi), yj, ps[i], row[j], p, rfl, hpj.te te34, hyp.te te34, good _ (List.getElem_mem hjr), fun H5 sm5 => ⟨_, rfl, ?_⟩⟩
        have eD5 : H5 D = some (.lst ((aheadOf (((row.take i).zip (rounds (row.take i))).take j) p).map V.int)) := sm5 _ _ eD4
        have hstep : aheadOf (((row.take i).zip (rounds (row.take i))).take (j + 1)) p = if apart row[j] p = true then aheadOf (((row.take i).zip (rounds (row.take i))).take j) p else aheadOf (((row.take i).zip (rounds (row.take i))).take j) p ++ [(rounds (row.take i))[j] + 1] := by
          rw [List.take_add_one, ez]
          exact ahead_snoc _ _ _
        cases hap : apart row[j] p with
        | true =>
          refine iteF ⟨sm4.trans sm5, ?_⟩
          rw [eD5, hstep, hap, if_pos rfl]
        | false =>
          refine iteT ⟨.ref o, rfl, .int (0 + (j : Nat)), rfl, o, _, _, .int (rounds (row.take i))[j], rfl, rfl, SqL.of (sm5 _ _ (sm4 _ _ eo)), atI_0 (by rw [List.getElem?_map, er]; rfl), _, 1, rfl, rfl, _, eD5, ?_, same_put (sm4.trans sm5) hD, ?_⟩
          · rw [List.length_map]
            exact lt_line (Nat.le_trans (ahead_le _ _) (Nat.le_trans (take_le _ _) (Nat.le_of_eq hA))) (by omega)
          · rw [upd_same, hstep, hap, if_neg Bool.false_ne_true, List.map_append]
            rfl
      · obtain ⟨sm4, eD4⟩ := hP4
        rw [List.take_of_length_le (Nat.le_of_eq hA)] at eD4
        have hal := ahead_le ((row.take i).zip (rounds (row.take i))) p
        have eo4 := sm4 _ _ eo
        refine ⟨.ref o, rfl, .inl ⟨rfl, _, SqL.of eo4⟩, ?_⟩
        refine ⟨Nat.succ_le_of_lt (lt_line (Nat.zero_le 0) (by decide)), fun l nl => ?_⟩
        have sml := same_upd nl (o := .lst [.int 0])
        refine ⟨.ref D, rfl, l, D, _, _, rfl, rfl, upd_same, sml _ _ eD4, ?_, fun c nc => ?_⟩
        · rw [List.length_map]
          exact le_line (m := 1000) (by rw [List.length_singleton]; omega) (Nat.le_refl _)
        · refine ⟨c, 0 :: aheadOf ((row.take i).zip (rounds (row.take i))) p, rfl, SqL.of upd_same, Nat.succ_pos _, fun m hm hle => ?_⟩
          have em : m = nextR ((row.take i).zip (rounds (row.take i))) p := mx_unique hm hle
          subst em
          have smc := same_upd nc (o := .lst ([.int 0] ++ (aheadOf ((row.take i).zip (rounds (row.take i))) p).map V.int))
          refine ⟨o, _, _, rfl, rfl, smc _ _ (sml _ _ eo4), ?_, ?_⟩
          · rw [List.length_map, rounds_length]
            exact lt_line (take_le _ _) (by omega)
          · refine ⟨_, _, _, rfl, same_put (((sm.trans sm4).trans sml).trans smc) no, ?_⟩
            rw [upd_same, rounds_take _ _ _ hp, List.map_append]
            rfl
    · obtain ⟨v2, v3, v4, rfl, sm, eo⟩ := hP
      rw [hpl, List.take_length] at eo
      exact ⟨.ref o, rfl, q _ o sm no eo⟩
/-! ### _law_is_row -/
def spIsRow : Sp := fun vs H Q _ => ∃ (x y : V) (b : Int) (bl : List (List Int)) (row : Row), vs = [x, y] ∧ StandT H x b bl ∧ RowT H y row ∧ bl.length ≤ 8 ∧ (∀ p ∈ row, Good bl.length p) ∧ (∀ part ∈ bl, part.length ≤ 3) ∧ ∀ (H' : Hp) (k : Bool), Same H H' → Q (.bl k) H'
theorem ok_isrow {f fQ : Addr} {fd fdQ : FuncData} (F : Fun K "_law_is_row" "_law_is_row" dIsRow f fd) (Q1 : PouredP P w K mg base 1 fQ fdQ spPoured) (mz : mg "zip" = none) (mli : mg "list" = none) (ms : mg "sorted" = none) : FnOk P w K mg base CX0 2 f fd ["_law_standing_here", "_law_row_here"] spIsRow := by
  refine F.ok scIsRow (fun vs H Q E h => ?_) (fun cdv A outer s H vs Q E hr h => ?_)
  · obtain ⟨x, y, b, bl, row, rfl, _⟩ := h
    rfl
  · obtain ⟨x, y, b, bl, row, rfl, hx, hy, hbl8, good, hpt, q⟩ := h
    refine ⟨_, pss_cons (ps_for PassesOwn.never rfl (pi_tup (pv 1)) (pg_name (i := 2) scIsRow.nd rfl (.inl rfl))
        (pss_cons (ps_par (i := 3) (j := 4) rfl scIsRow.nd rfl rfl (by decide) rfl rfl (pa_cons (pe_lst pa_nil) (pa_cons (pe_lst pa_nil) pa_nil)) (by rfl))
        (pss_cons (ps_for PassesOwn.never rfl (RZ.pi_zipA (by rfl) mz (pa_cons (pe_ix ix_tup (pv 2) pe_int (fun _ _ => rfl)) (pa_cons (pe_ix ix_tup (pv 2) pe_int (fun _ _ => rfl)) pa_nil)))
            (pg_tup rfl (pgs_cons (pg_name (i := 5) scIsRow.nd rfl (.inl rfl)) (pgs_cons (pg_name (i := 6) scIsRow.nd rfl (.inl rfl)) pgs_nil)))
          (pss_one (ps_par (i := 3) (j := 4) rfl scIsRow.nd rfl rfl (by decide) rfl rfl (pa_cons (pe_op op_cat (pv 3) (pe_callTy call_list_of (by rfl) mli boot_list' (pa_cons (pe_ix ix_tup (pe_ix ix_tup (pv 0) pe_int (fun _ _ => rfl)) (pv 5) (fun _ _ => rfl)) pa_nil)))
              (pa_cons (pe_op op_cat (pv 4) (pe_callTy call_list_of (by rfl) mli boot_list' (pa_cons (pv 6) pa_nil))) pa_nil)) (by rfl))))
        (pss_cons (ps_if (pt_cmpR (op_neD hr.units) (pe_callB cr_sorted (by rfl) ms boot_sorted' (pa_cons (pv 3) pa_nil)) (pe_callB cr_sorted (by rfl) ms boot_sorted' (pa_cons (pv 4) pa_nil)) (nomark _)) (pss_one (ps_ret pe_bl)) pss_nil)
        (pss_one (ps_set (i := 0) scIsRow.nd rfl (.inl rfl) (pe_call Q1.G hr (by rfl) Q1.g Q1.F.kp Q1.b .nil pass0 (pa_cons (pv 0) (pa_cons (pv 2) pa_nil)))))))))
      (pss_one (ps_ret pe_bl)), ?_⟩
    obtain ⟨a, ps, rfl, ea, hps⟩ := hy
    have hpl := Paired.length hps
    refine ⟨.ref a, rfl, a, rfl, ⟨_, SqT.of ea⟩, ?_⟩
    refine for_tup (xs := ps) (fun i σ H' => ∃ v0 v2 v3 v4 v5 v6 bl', σ = [some v0, some (.ref a), v2, v3, v4, v5, v6] ∧ Same H H' ∧ StandT H' v0 b bl' ∧ bl'.length = bl.length ∧ ∀ part ∈ bl', part.length ≤ 3) ⟨x, none, none, none, none, none, bl, rfl, fun _ _ e => e, hx, rfl, hpt⟩
      (fun i σ H' _ hP => by obtain ⟨_, _, _, _, _, _, _, _, sm, _⟩ := hP; exact SqT.of (sm _ _ ea)) (fun i y σ H' hy hP => ?_) fun σ H' hP => ?_
    · obtain ⟨v0, v2, v3, v4, v5, v6, bl', rfl, sm, hst, hbl', hpt'⟩ := hP
      obtain ⟨p, hp, hyp0⟩ := paired_get2 hps hy
      have gp : Good bl.length p := good p (List.mem_of_getElem? hp)
      have hyp := hyp0.te (TE2.of sm)
      have hyp' := hyp
      have hst' := hst
      obtain ⟨c, y', rfl, ec, ⟨d, vs, rfl, ed, hvs⟩⟩ := hst
      obtain ⟨e, z1, z2, rfl, ee, ⟨e1, rfl, ee1⟩, ⟨e2, us, rfl, ee2, hus⟩⟩ := hyp
      have hul := Paired.length hus
      have hwl := gp.short
      refine ⟨Nat.zero_le _, fun o no => ⟨Nat.zero_le _, fun o2 no2 => ⟨_, _, rfl, ?_⟩⟩⟩
      have so := (same_upd no (o := .lst [])).trans (same_upd no2 (o := .lst []))
      have eo : (upd (upd H' o (.lst [])) o2 (.lst [])) o = some (.lst []) := same_upd no2 _ _ upd_same
      have eo2 : (upd (upd H' o (.lst [])) o2 (.lst [])) o2 = some (.lst []) := upd_same
      generalize (upd (upd H' o (.lst [])) o2 (.lst [])) = H1 at so eo eo2
      refine ⟨.ref e, rfl, e, _, 0, _, rfl, rfl, SqT.of (so _ _ ee), atI_nat (j := 0) rfl, .ref e, rfl, e, _, 1, _, rfl, rfl, SqT.of (so _ _ ee), atI_nat (j := 1) rfl, e1, e2, p.1.map V.int, us, rfl, .inr ⟨SqT.of (so _ _ ee1), SqT.of (so _ _ ee2), ?_⟩⟩
      refine RZ.for_zipT (xs := p.1.map V.int) (ys := us) (by rw [List.length_map, hul, gp.len]) (fun j σ H2 => ∃ w3 w4 v5 v6 as bs, σ = [some (.ref c), some (.ref a), some (.ref e), some (.ref w3), some (.ref w4), v5, v6] ∧ Same H1 H2 ∧ H2 w3 = some (.lst (as.map V.int)) ∧ H2 w4 = some (.lst (bs.map V.int)) ∧ as.length ≤ 3 * j ∧ bs.length ≤ 3 * j)
        ⟨o, o2, v5, v6, [], [], rfl, fun _ _ e => e, eo, eo2, Nat.zero_le _, Nat.zero_le _⟩ (fun j σ H2 hP2 => by obtain ⟨_, _, _, _, _, _, _, sm2, _⟩ := hP2; exact ⟨SqT.of (sm2 _ _ (so _ _ ee1)), SqT.of (sm2 _ _ (so _ _ ee2))⟩) (fun j k v T σ H2 hk hv hP2 nT => ?_) fun σ H2 hP2 => ?_
      · obtain ⟨w3, w4, v5, v6, as, bs, rfl, sm2, e3, e4, hla, hlb⟩ := hP2
        obtain ⟨kk, hkk, rfl⟩ := map_some hk
        obtain ⟨part, hpart, hvp⟩ := paired_get2 hus hv
        have hkr := gp.rng kk (List.mem_of_getElem? hkk)
        have hj8 : j < p.1.length := (List.getElem?_eq_some_iff.mp hkk).1
        have smT := same_upd nT (o := .tup [.int kk, v])
        have smA := (so.trans sm2).trans smT
        have hkl : kk.toNat < bl'.length := by omega
        obtain ⟨pv, hpv, hpi0⟩ := paired_get1 hvs (List.getElem?_eq_getElem hkl)
        obtain ⟨g, rfl, eg⟩ := hpi0
        obtain ⟨g2, rfl, eg2⟩ := hvp
        have hb1 := hpt' _ (List.getElem_mem hkl)
        have hb2 := (gp.parts part (List.mem_of_getElem? hpart)).1
        refine ⟨T, [.int kk, .ref g2], rfl, SqT.of upd_same, rfl, .int kk, [.ref g2], rfl, .ref g2, [], rfl, rfl, ?_⟩
        refine ⟨.ref w3, rfl, .ref c, rfl, c, _, 1, .ref d, rfl, rfl, SqT.of (smA _ _ ec), atI_nat (j := 1) rfl, .int kk, rfl, d, _, kk, .ref g, rfl, rfl, SqT.of (smA _ _ ed), atI_of hkr.1 hpv, g, _, rfl, .inr (SqT.of (smA _ _ eg)), fun l1 n1 => ?_⟩
        have sm3 := same_upd n1 (o := .lst (bl'[kk.toNat].map V.int))
        refine ⟨w3, l1, _, _, rfl, rfl, sm3 _ _ (smT _ _ e3), upd_same, ?_, fun l2 n2 => ?_⟩
        · rw [List.length_map, List.length_map]
          exact le_line (m := 100) (by omega) (by decide)
        · have sm4 := same_upd n2 (o := .lst (as.map V.int ++ bl'[kk.toNat].map V.int))
          refine ⟨.ref w4, rfl, .ref g2, rfl, g2, _, rfl, .inr (SqT.of (sm4 _ _ (sm3 _ _ (smA _ _ eg2)))), fun l3 n3 => ?_⟩
          have sm5 := same_upd n3 (o := .lst (part.map V.int))
          refine ⟨w4, l3, _, _, rfl, rfl, sm5 _ _ (sm4 _ _ (sm3 _ _ (smT _ _ e4))), upd_same, ?_, fun l4 n4 => ?_⟩
          · rw [List.length_map, List.length_map]
            exact le_line (m := 100) (by omega) (by decide)
          · have sm6 := same_upd n4 (o := .lst (bs.map V.int ++ part.map V.int))
            refine ⟨_, _, rfl, l2, l4, _, _, as ++ bl'[kk.toNat], bs ++ part, rfl, ((((sm2.trans smT).trans sm3).trans sm4).trans sm5).trans sm6, ?_, ?_, ?_, ?_⟩
            · rw [List.map_append]
              exact sm6 _ _ (sm5 _ _ upd_same)
            · rw [List.map_append]
              exact upd_same
            · rw [List.length_append]
              omega
            · rw [List.length_append]
              omega
      · obtain ⟨w3, w4, v5, v6, as, bs, rfl, sm2, e3, e4, hla, hlb⟩ := hP2
        rw [List.length_map] at hla hlb
        refine ⟨.ref w3, rfl, w3, as, rfl, SqL.of e3, by omega, fun as' r1 hp1 hs1 nr1 => ?_⟩
        have sm3 := same_upd nr1 (o := .lst (as'.map V.int))
        refine ⟨.ref w4, rfl, w4, bs, rfl, SqL.of (sm3 _ _ e4), by omega, fun bs' r2 hp2 hs2 nr2 => ?_⟩
        have sm4 := same_upd nr2 (o := .lst (bs'.map V.int))
        have smAll : Same H' (upd (upd H2 r1 (.lst (as'.map V.int))) r2 (.lst (bs'.map V.int))) := ((so.trans sm2).trans sm3).trans sm4
        refine ⟨.list (as'.map .int), .list (bs'.map .int), .lst (SqL.of (sm4 _ _ upd_same)) (dpInts _), .lst (SqL.of upd_same) (dpInts _), shaped_list ?_ ?_, shaped_list ?_ ?_, ?_⟩
        · exact Nat.le_trans (depth_all (n := 0) (fun a => by rw [PyData.depth]; exact Nat.le_refl _) _) (by decide)
        · exact lay_all (fun a => by rw [PyData.canLay0]) _
        · exact Nat.le_trans (depth_all (n := 0) (fun a => by rw [PyData.depth]; exact Nat.le_refl _) _) (by decide)
        · exact lay_all (fun a => by rw [PyData.canLay0]) _
        · refine ⟨_, rfl, ?_⟩
          cases (!PyData.eqv (PyData.list (List.map PyData.int as')) (PyData.list (List.map PyData.int bs'))) with
          | true => exact iteT (q _ false (sm.trans smAll))
          | false =>
            refine iteF ?_
            refine ⟨.ref c, rfl, .ref e, rfl, .ref c, .ref e, b, bl', p, rfl, hst'.te (TE2.of smAll), hyp'.te (TE2.of smAll), by rw [hbl']; exact gp, fun H5 v sm5 hv => ?_⟩
            refine ⟨v, _, _, _, _, _, pourB bl' p, rfl, (sm.trans smAll).trans sm5, hv, by rw [pourB_length]; exact hbl', fun part hp => ?_⟩
            rcases pourB_mem hp with h | h
            · exact hpt' part h
            · exact (gp.parts part h).1
    · obtain ⟨v0, v2, v3, v4, v5, v6, bl', rfl, sm, hst, hbl', hpt'⟩ := hP
      exact q _ true sm
end
end K66
namespace K66
open PySem PySem.Spec PyProof.Rows L2
abbrev nAll : List Str := ["_law_row_here", "_law_known", "_law_fresh", "_law_one", "_law_at", "_law_other"]
theorem scAll : FnScope nAll ["_law_row_here"] (defScope dAll) := ⟨rfl, rfl, rfl, by decide +kernel, rfl, by decide +kernel, by decide +kernel⟩
theorem cut_hi (xs : List V) (k : Nat) : cutV xs none (some (k : Int)) = xs.take k := cut_take xs k
theorem cut_lo (xs : List V) (k : Nat) : cutV xs (some (k : Int)) none = xs.drop k := by
  unfold cutV
  rw [HT.sIx_none, HT.sIx_nat]
  by_cases h : k ≤ xs.length
  · rw [Nat.min_eq_left h]
    exact List.take_of_length_le (by rw [List.length_drop]; exact Nat.le_refl _)
  · rw [Nat.min_eq_right (by omega), Nat.sub_self, List.take_zero, List.drop_eq_nil_of_le (by omega)]
/-- the reading of `t[:at] + (t[at + 1], t[at]) + t[at + 2:]` -/
def tSwap (K : PySem.W.Frag) (i k : Nat) : TE :=
  tOp (rCatA K) (tOp (rCatA K) (tSl (rSlA K) (tVar i) tNoPart (tPart (tVar k))) (tTup (tCons (tOp (rIxT K) (tVar i) (tOp (rI0 fun i j => V.int (i + j)) (tVar k) (tC (.int 1)))) (tCons (tOp (rIxT K) (tVar i) (tVar k)) tNil))))
    (tSl (rSlA K) (tVar i) (tPart (tOp (rI0 fun i j => V.int (i + j)) (tVar k) (tC (.int 2)))) tNoPart)
theorem swap_read {K : PySem.W.Frag} {i k j : Nat} {c : Addr} {vs : List V} {x y : V} {σ : L2.St} {H : Hp} {Q : VK} (hi : σ[i]? = some (some (.ref c))) (hk : σ[k]? = some (some (.int (j : Int)))) (ec : H c = some (.tup vs))
    (hx : vs[j]? = some x) (hy : vs[j + 1]? = some y) (hl : vs.length ≤ 1000) (q : ∀ (H' : Hp) (p : Addr), Same H H' → H' p = some (.tup (vs.take j ++ y :: x :: vs.drop (j + 2))) → Q (.ref p) H') : tSwap K i k σ H Q := by
  have hj : j + 1 < vs.length := (List.getElem?_eq_some_iff.mp hy).1
  refine ⟨.ref c, hi, .int (j : Int), hk, (j : Int), rfl, c, vs, rfl, SqT.of ec, fun hw => ?_, fun _ p np => ?_⟩
  · have h2 := hw.2
    rw [HT.sIx_nat] at h2
    omega
  rw [cut_hi]
  have sm1 := same_upd np (o := .tup (vs.take j))
  refine ⟨.ref c, hi, .int (j : Int), hk, _, _, rfl, rfl, c, vs, _, y, rfl, rfl, SqT.of (sm1 _ _ ec), ?_, .ref c, hi, .int (j : Int), hk, c, vs, _, x, rfl, rfl, SqT.of (sm1 _ _ ec), atI_nat hx, by show 2 ≤ sizeLine; decide, fun p2 np2 => ?_⟩
  · have e : ((j : Int) + 1) = ((j + 1 : Nat) : Int) := rfl
    rw [e]
    exact atI_nat hy
  have sm2 := same_upd np2 (o := .tup [y, x])
  have htk : (vs.take j).length = j := by rw [List.length_take]; omega
  have hdl : (vs.drop (j + 2)).length = vs.length - (j + 2) := List.length_drop
  have rest : ∀ (H3 : Hp) (p3 : Addr), Same H H3 → H3 p3 = some (.tup (vs.take j ++ [y, x])) →
      tSl (rSlA K) (tVar i) (tPart (tOp (rI0 fun i j => V.int (i + j)) (tVar k) (tC (.int 2)))) tNoPart σ H3 fun z H4 => rCatA K (.ref p3) z H4 Q := by
    intro H3 p3 sm3 e3
    refine ⟨.ref c, hi, .int (j : Int), hk, _, _, rfl, rfl, _, rfl, c, vs, rfl, SqT.of (sm3 _ _ ec), fun hw => ?_, fun _ p4 np4 => ?_⟩
    · have h1 := hw.1
      have e : ((j : Int) + 2) = ((j + 2 : Nat) : Int) := rfl
      rw [e, HT.sIx_nat] at h1
      omega
    have e : ((j : Int) + 2) = ((j + 2 : Nat) : Int) := rfl
    rw [e, cut_lo]
    have sm4 := same_upd np4 (o := .tup (vs.drop (j + 2)))
    refine ⟨p3, p4, _, _, rfl, rfl, SqT.of (sm4 _ _ e3), SqT.of upd_same, ?_, fun h => by simp at h, fun _ h => ?_, fun _ _ p5 np5 => ?_⟩
    · rw [List.length_append, htk, hdl]
      exact le_line (m := 1000) (by simp; omega) (Nat.le_refl _)
    · refine q _ p3 (sm3.trans sm4) ((sm4 _ _ e3).trans ?_)
      rw [h]
    · refine q _ p5 ((sm3.trans sm4).trans (same_upd np5)) ?_
      rw [upd_same, List.append_assoc]
      rfl
  refine ⟨p, p2, _, _, rfl, rfl, SqT.of (sm2 _ _ upd_same), SqT.of upd_same, ?_, fun h => ?_, fun _ h => (by cases h), fun _ _ p3 np3 => ?_⟩
  · rw [htk]
    exact le_line (m := 1000) (by simp; omega) (by decide)
  · refine rest _ p2 (sm1.trans sm2) ?_
    rw [h]
    exact upd_same
  · exact rest _ p3 ((sm1.trans sm2).trans (same_upd np3)) upd_same
theorem paired_take {α β : Type} {R : α → β → Prop} : ∀ {as : List α} {bs : List β} (n : Nat), Paired R as bs → Paired R (as.take n) (bs.take n)
  | _, _, 0, _ => .nil
  | _, _, _ + 1, .nil => .nil
  | _, _, n + 1, .cons r t => .cons r (paired_take n t)
theorem paired_drop {α β : Type} {R : α → β → Prop} : ∀ {as : List α} {bs : List β} (n : Nat), Paired R as bs → Paired R (as.drop n) (bs.drop n)
  | _, _, 0, h => h
  | _, _, _ + 1, .nil => .nil
  | _, _, n + 1, .cons _ t => paired_drop n t
def swapAt (row : Row) (j : Nat) (p q : Pour) : Row := row.take j ++ q :: p :: row.drop (j + 2)
theorem split_at {α : Type} : ∀ {l : List α} {j : Nat} {p q : α}, l[j]? = some p → l[j + 1]? = some q → l = l.take j ++ p :: q :: l.drop (j + 2)
  | [], _, _, _, h, _ => by cases h
  | x :: l, 0, p, q, h1, h2 => by
    cases h1
    cases l with
    | nil => cases h2
    | cons y r =>
      cases h2
      rfl
  | x :: l, j + 1, p, q, h1, h2 => by
    have h1' : l[j]? = some p := h1
    have h2' : l[j + 1]? = some q := h2
    have := split_at h1' h2'
    show x :: l = x :: (l.take j ++ p :: q :: l.drop (j + 2))
    rw [← this]
theorem swapAt_sw {row : Row} {j : Nat} {p q : Pour} (h1 : row[j]? = some p) (h2 : row[j + 1]? = some q) (h : apart p q = true) : Sw row (swapAt row j p q) := by
  have e := split_at h1 h2
  have s := Sw.mk (row.take j) p q (row.drop (j + 2)) h
  rw [← e] at s
  exact s
theorem sw_swapAt {row r' : Row} (h : Sw row r') : ∃ (j : Nat) (p q : Pour), row[j]? = some p ∧ row[j + 1]? = some q ∧ apart p q = true ∧ r' = swapAt row j p q := by
  cases h with
  | mk l p q r h =>
    refine ⟨l.length, p, q, ?_, ?_, h, ?_⟩
    · rw [List.getElem?_append_right (Nat.le_refl _), Nat.sub_self]
      rfl
    · rw [List.getElem?_append_right (by omega)]
      have : l.length + 1 - l.length = 1 := by omega
      rw [this]
      rfl
    · unfold swapAt
      rw [List.take_left, ← List.drop_drop, List.drop_left]
      rfl
theorem Sw.length {a b : Row} (h : Sw a b) : a.length = b.length := h.perm.length_eq
section
variable {P : Program} {w : World} {K : PySem.W.Frag} {mg : Str → Option Value} {base : Heap}
/-! ### _law_all_exchanges -/
def spAll (P : Program) (w : World) : Sp := fun vs H Q _ => ∃ (x : V) (row : Row), vs = [x] ∧ RowT H x row ∧ (∀ p ∈ row, Good 8 p) ∧ row.length ≤ 5 ∧ ∀ (H' : Hp) (d : Addr) (xs : List (Row × Addr)), Same H H' → Known P w H' d xs → (∀ r, r ∈ xs.map (·.1) ↔ Eqv row r) → Q (.ref d) H'
theorem te_not {H : Hp} {d : Addr} {x y : HO} (e : H d = some x) (h : ∀ vs, x ≠ .tup vs) : TE2 H (upd H d y) := fun c xs q => by
  have : c ≠ d := fun z => by
    subst z
    rw [e] at q
    exact h xs (Option.some.inj q)
  rw [upd_ne this]
  exact q
theorem okv_rows {H : Hp} : ∀ {vs : List V} {rs : List Row}, Paired (RowT H) vs rs → ∀ v ∈ vs, Okv H v
  | _, _, .nil, v, h => absurd h List.not_mem_nil
  | _, _, .cons r t, v, h => by
    rcases List.mem_cons.mp h with e | h
    · rw [e]; exact r.okv
    · exact okv_rows t v h
theorem rows_te {H H' : Hp} (k : TE2 H H') {vs : List V} {rs : List Row} (h : Paired (RowT H) vs rs) : Paired (RowT H') vs rs := L2.Paired.mapP h fun _ _ z => z.te k
theorem ok_all {f fA : Addr} {fd fdA : FuncData} (F : Fun K "_law_all_exchanges" "_law_all_exchanges" dAll f fd) (A1 : LApartP P w K mg base 1 fA fdA)
    (ml : mg "len" = none) (mr : mg "range" = none) : FnOk P w K mg base CX0 2 f fd ["_law_row_here"] (spAll P w) := by
  refine F.ok scAll (fun vs H Q E h => ?_) (fun cdv A outer s H vs Q E hr h => ?_)
  · obtain ⟨x, row, rfl, _⟩ := h
    rfl
  · obtain ⟨x, row, rfl, hx, good, hlen, q⟩ := h
    refine ⟨_, pss_cons (ps_par (i := 1) (j := 2) rfl scAll.nd rfl rfl (by decide) rfl rfl (pa_cons (pe_kn hr.units (pv 0) pe_bl) (pa_cons (pe_lst (pa_cons (pv 0) pa_nil)) pa_nil)) (by rfl))
      (pss_cons (ps_while PassesOwn.never (pt_cmpR (op_neD hr.units) (pv 2) (pe_lst pa_nil) (nomark _))
        (pss_cons (ps_set (i := 3) scAll.nd rfl (.inl rfl) (pe_bm0 PySem.F.plainAttrs_list PySem.F.slot_list_pop PySem.F.type_list_pop mt_pop (pv 2)))
        (pss_one (ps_for PassesOwn.never rfl (pi_range1 (by rfl) mr (pa_cons (pe_op op_sub (pe_callB call_len_seq (by rfl) ml boot_len' (pa_cons (pv 3) pa_nil)) pe_int) pa_nil)) (pg_name (i := 4) scAll.nd rfl (.inl rfl))
          (pss_one (ps_if (pt_val (pe_call A1.G hr (by rfl) A1.g A1.F.kp A1.b .nil pass0 (pa_cons (pe_ix ix_tup (pv 3) (pv 4) (fun _ _ => rfl)) (pa_cons (pe_ix ix_tup (pv 3) (pe_op op_add (pv 4) pe_int) (fun _ _ => rfl)) pa_nil))))
            (pss_cons (ps_set (i := 5) scAll.nd rfl (.inl rfl) (pe_op op_catA (pe_op op_catA (pe_slice sl_tupA (pv 3) po_none (po_some (pv 4))) (pe_tup (pa_cons (pe_ix ix_tup (pv 3) (pe_op op_add (pv 4) pe_int) (fun _ _ => rfl)) (pa_cons (pe_ix ix_tup (pv 3) (pv 4) (fun _ _ => rfl)) pa_nil))))
                (pe_slice sl_tupA (pv 3) (po_some (pe_op op_add (pv 4) pe_int)) po_none)))
            (pss_one (ps_if (pt_cmpR (op_notInKn hr.units) (pv 5) (pv 1) rfl)
              (pss_cons (ps_asg pe_bl (pg_sub (pv 1) (pv 5) (set_kn hr.units))) (pss_one (ps_expr (pe_bm PySem.F.plainAttrs_list PySem.F.slot_list_append PySem.F.type_list_append mt_append (pv 2) (pa_cons (pv 5) pa_nil))))) pss_nil))) pss_nil))))))
      (pss_one (ps_ret (pv 1)))), ?_⟩
    have hx0 := hx
    obtain ⟨c, ps, rfl, ec, hps⟩ := hx
    intro d nd
    have smd := same_upd nd (o := KnO P w d [])
    refine ⟨.ref c, rfl, c, row, rfl, rfl, hx0.te (TE2.of smd), upd_same, ?_⟩
    refine ⟨.ref c, rfl, Nat.succ_le_of_lt (lt_line (Nat.zero_le 0) (by decide)), fun o no => ⟨_, _, rfl, ?_⟩⟩
    have hod : o ≠ d := fun e => by
      subst e
      rw [upd_same] at no
      cases no
    have noH : H o = none := by
      rw [upd_ne hod, upd_ne hod] at no
      exact no
    have hdo : d ≠ o := Ne.symm hod
    refine ⟨fun n σ H' => ∃ (v3 v4 v5 : Option V) (xs : List (Row × Addr)) (vs : List V) (frs : List Row), σ = [some (.ref c), some (.ref d), some (.ref o), v3, v4, v5] ∧ Same H H' ∧ Known P w H' d xs ∧ H' o = some (.lst vs) ∧ Paired (RowT H') vs frs ∧ (∀ r ∈ xs.map (·.1), Eqv row r) ∧ row ∈ xs.map (·.1) ∧ (∀ r ∈ frs, r ∈ xs.map (·.1)) ∧ (∀ r ∈ xs.map (·.1), r ∈ frs ∨ ∀ r', Sw r r' → r' ∈ xs.map (·.1)) ∧ 2 * (3125 - xs.length) + frs.length = n ∧ n ≤ 6250, ?_, fun n σ H' hW => ?_⟩
    · have sm0 : Same H (upd (upd (upd H d (KnO P w d [])) d (KnO P w d [(row, c)])) o (.lst [.ref c])) := same_put (same_put smd nd) noH
      refine ⟨_, none, none, none, [(row, c)], [.ref c], [row], rfl, sm0, ⟨?_, by simp, fun x hx => ?_⟩, upd_same, .cons (hx0.te (TE2.of sm0)) .nil, fun r hr => ?_, List.mem_cons_self, fun r hr => ?_, fun r hr => ?_, rfl, by show 2 * (3125 - 1) + 1 ≤ 6250; decide⟩
      · show upd (upd (upd H d (KnO P w d [])) d (KnO P w d [(row, c)])) o (.lst [.ref c]) d = _
        rw [upd_ne hdo]
        exact upd_same
      · rw [List.mem_singleton.mp hx]
        exact hx0.te (TE2.of sm0)
      · rw [List.mem_singleton.mp (show r ∈ [row] from hr)]
        exact .refl _
      · exact hr
      · exact .inl hr
    · obtain ⟨v3, v4, v5, xs, vs, frs, rfl, sm, kn, eo, hvs, hk1, hk2, hk3, hk4, hn, hn2⟩ := hW
      have hxs : xs.length ≤ 3125 := by
        have := perms_few kn.nodup hk1 hlen
        rw [List.length_map] at this
        exact this
      have hvl := Paired.length hvs
      refine ⟨.ref o, rfl, Nat.zero_le _, fun t nt => ?_⟩
      have smt := same_upd nt (o := .lst [])
      refine neNil (smt _ _ eo) upd_same (okv_rows (rows_te (TE2.of smt) hvs)) ⟨_, rfl, ?_⟩
      by_cases hnil : vs = []
      · rw [decide_eq_false (fun z => z hnil)]
        refine iteF ⟨.ref d, rfl, ?_⟩
        have hfr : frs = [] := by
          rw [hnil] at hvl
          exact List.eq_nil_of_length_eq_zero hvl.symm
        subst hfr
        refine q _ d xs (sm.trans smt) (kn.te (TE2.of smt) (by rw [smt _ _ kn.at', kn.at'])) fun r => ⟨hk1 r, fun h => ?_⟩
        induction h with
        | refl => exact hk2
        | tail _ s ih =>
          rcases hk4 _ ih with z | z
          · exact absurd z List.not_mem_nil
          · exact z _ s
      · rw [decide_eq_true hnil]
        obtain ⟨vs4, u, rfl⟩ : ∃ vs4 u, vs = vs4 ++ [u] := ⟨vs.dropLast, vs.getLast hnil, (List.dropLast_concat_getLast hnil).symm⟩
        obtain ⟨frs4, one, rfl⟩ : ∃ f4 g, frs = f4 ++ [g] := by
          have hf : frs ≠ [] := fun e => by
            subst e
            rw [List.length_append] at hvl
            cases hvl
          exact ⟨frs.dropLast, frs.getLast hf, (List.dropLast_concat_getLast hf).symm⟩
        have hlen4 : vs4.length = frs4.length := by
          rw [List.length_append, List.length_append] at hvl
          simpa using hvl
        obtain ⟨as', a', e1, hvs4, hu⟩ := paired_snoc_inv hvs
        obtain ⟨rfl, e2⟩ := List.append_inj' e1 rfl
        cases e2
        have hone := hk1 one (hk3 one (List.mem_append_right _ List.mem_cons_self))
        have hol : one.length = row.length := hone.perm.length_eq.symm
        have gone : ∀ p ∈ one, Good 8 p := fun p hp => good p (hone.perm.mem_iff.mpr hp)
        refine iteT ⟨fun σ H' => ∃ (v3 v4 v5 : Option V) (xs : List (Row × Addr)) (vs : List V) (frs : List Row), σ = [some (.ref c), some (.ref d), some (.ref o), v3, v4, v5] ∧ Same H H' ∧ Known P w H' d xs ∧ H' o = some (.lst vs) ∧ Paired (RowT H') vs frs ∧ (∀ r ∈ xs.map (·.1), Eqv row r) ∧ row ∈ xs.map (·.1) ∧ (∀ r ∈ frs, r ∈ xs.map (·.1)) ∧ (∀ r ∈ xs.map (·.1), r ∈ frs ∨ ∀ r', Sw r r' → r' ∈ xs.map (·.1)) ∧ 2 * (3125 - xs.length) + frs.length < n, fun σ' H' hN => ?_, ?_⟩
        · obtain ⟨v3, v4, v5, xs, vs, frs, g1, g2, g3, g4, g5, g6, g7, g8, g9, g10⟩ := hN
          exact ⟨_, g10, v3, v4, v5, xs, vs, frs, g1, g2, g3, g4, g5, g6, g7, g8, g9, rfl, by omega⟩
        · refine ⟨.ref o, rfl, .inl ⟨rfl, _, SqL.of (smt _ _ eo)⟩, o, _, u, rfl, rfl, smt _ _ eo, last_get _ _, ?_⟩
          rw [List.dropLast_concat]
          have teP : TE2 H' (upd (upd H' t (.lst [])) o (.lst vs4)) := (TE2.of smt).trans (te_put (smt _ _ eo))
          have hu2 := hu.te teP
          have hu2' := hu2
          obtain ⟨a1, os, rfl, ea1, hos⟩ := hu2
          have hosl := Paired.length hos
          have smP : Same H (upd (upd H' t (.lst [])) o (.lst vs4)) := same_put (sm.trans smt) noH
          have knP : Known P w (upd (upd H' t (.lst [])) o (.lst vs4)) d xs := kn.te teP (by rw [upd_ne hdo, smt _ _ kn.at', kn.at'])
          have hvsP := rows_te teP hvs4
          have eoP : (upd (upd H' t (.lst [])) o (.lst vs4)) o = some (.lst vs4) := upd_same
          generalize (upd (upd H' t (.lst [])) o (.lst vs4)) = HP at ea1 hos smP knP hvsP eoP hu2' teP
          refine ⟨.ref a1, rfl, a1, os, rfl, .inr (SqT.of ea1), _, 1, rfl, rfl, _, rfl, by omega, by omega, ?_⟩
          have eN : ((os.length : Nat) : Int) - 1 = ((os.length : Nat) : Int) - 1 := rfl
          refine for_range (lo := 0) (n := (((os.length : Nat) : Int) - 1).toNat) (fun i σ H2 => ∃ (v4 v5 : Option V) (xs : List (Row × Addr)) (vs : List V) (frs : List Row), σ = [some (.ref c), some (.ref d), some (.ref o), some (.ref a1), v4, v5] ∧ Same H H2 ∧ TE2 HP H2 ∧ Known P w H2 d xs ∧ H2 o = some (.lst vs) ∧ Paired (RowT H2) vs frs ∧ (∀ r ∈ xs.map (·.1), Eqv row r) ∧ row ∈ xs.map (·.1) ∧ one ∈ xs.map (·.1) ∧ (∀ r ∈ frs, r ∈ xs.map (·.1)) ∧ (∀ r ∈ xs.map (·.1), r ∈ frs ∨ r = one ∨ ∀ r', Sw r r' → r' ∈ xs.map (·.1)) ∧ (∀ (j : Nat) (p q : Pour), j < i → one[j]? = some p → one[j + 1]? = some q → apart p q = true → swapAt one j p q ∈ xs.map (·.1)) ∧ 2 * (3125 - xs.length) + frs.length < n)
            ⟨v4, v5, xs, vs4, frs4, rfl, smP, TE2.refl _, knP, eoP, hvsP, hk1, hk2, hk3 one (List.mem_append_right _ List.mem_cons_self), fun r hr => hk3 r (List.mem_append_left _ hr), fun r hr => ?_, fun j p q hj => absurd hj (Nat.not_lt_zero _), ?_⟩ (fun i σ H2 hi hP => ?_) fun σ H2 hP => ?_
          · rcases hk4 r hr with z | z
            · rcases List.mem_append.mp z with z | z
              · exact .inl z
              · exact .inr (.inl (List.mem_singleton.mp z))
            · exact .inr (.inr z)
          · rw [List.length_append, List.length_singleton] at hn
            omega
          · obtain ⟨v4, v5, xs, vs, frs, rfl, sm2, te2, kn2, eo2, hvs2, g1, g2, g2b, g3, g4, g5, g6⟩ := hP
            have hi1 : i + 1 < one.length := by omega
            have ep : one[i]? = some one[i] := List.getElem?_eq_getElem (by omega)
            have eq : one[i + 1]? = some one[i + 1] := List.getElem?_eq_getElem hi1
            obtain ⟨y1, hy1, hp1⟩ := paired_get1 hos ep
            obtain ⟨y2, hy2, hp2⟩ := paired_get1 hos eq
            have ei : (0 + (i : Int)) = ((i : Nat) : Int) := Int.zero_add _
            have ei1 : (0 + (i : Int)) + 1 = ((i + 1 : Nat) : Int) := by omega
            refine ⟨.ref a1, rfl, .int (0 + (i : Nat)), rfl, a1, os, _, y1, rfl, rfl, SqT.of (te2 _ _ ea1), atI_0 hy1, .ref a1, rfl, .int (0 + (i : Nat)), rfl, _, 1, rfl, rfl, a1, os, _, y2, rfl, rfl, SqT.of (te2 _ _ ea1), ?_, y1, y2, one[i], one[i + 1], rfl, hp1.te te2, hp2.te te2, gone _ (List.getElem_mem (by omega)), fun H3 sm3 => ⟨_, rfl, ?_⟩⟩
            · rw [ei1]
              exact atI_nat hy2
            · have te3 := te2.trans (TE2.of sm3)
              have kn3 := kn2.te (TE2.of sm3) (by rw [sm3 _ _ kn2.at', kn2.at'])
              have hvs3 := rows_te (TE2.of sm3) hvs2
              cases hap : apart one[i] one[i + 1] with
              | false =>
                refine iteF ⟨_, _, xs, vs, frs, rfl, sm2.trans sm3, te3, kn3, sm3 _ _ eo2, hvs3, g1, g2, g2b, g3, g4, fun j p q hj h1 h2 h3 => ?_, g6⟩
                by_cases hji : j = i
                · subst hji
                  rw [ep] at h1
                  rw [eq] at h2
                  cases h1
                  cases h2
                  rw [hap] at h3
                  cases h3
                · exact g5 j p q (by omega) h1 h2 h3
              | true =>
                refine iteT ?_
                have hsw := swapAt_sw ep eq hap
                have hE := (g1 one g2b).trans (Eqv.one hsw)
                refine swap_read (K := K) (i := 3) (k := 4) (j := i) (vs := os) (x := y1) (y := y2) rfl (by show some (some (V.int (0 + (i : Int)))) = _; rw [Int.zero_add]) (te3 _ _ ea1) hy1 hy2 (by omega) fun H4 p4 sm4 e4 => ?_
                have te4 := te3.trans (TE2.of sm4)
                have kn4 := kn3.te (TE2.of sm4) (by rw [sm4 _ _ kn3.at', kn3.at'])
                have hvs4 := rows_te (TE2.of sm4) hvs3
                have eo4 := sm4 _ _ (sm3 _ _ eo2)
                have hrow : RowT H4 (.ref p4) (swapAt one i one[i] one[i + 1]) := ⟨p4, _, rfl, e4, paired_append (paired_take i (pours_te te4 hos)) (.cons (hp2.te te4) (.cons (hp1.te te4) (paired_drop (i + 2) (pours_te te4 hos))))⟩
                refine ⟨.ref p4, rfl, .ref d, rfl, _, d, xs, hrow, rfl, kn4, _, rfl, ?_⟩
                by_cases hm : swapAt one i one[i] one[i + 1] ∈ xs.map (·.1)
                · have e : (if true = true then !decide (swapAt one i one[i] one[i + 1] ∈ xs.map (·.1)) else decide (swapAt one i one[i] one[i + 1] ∈ xs.map (·.1))) = false := by rw [if_pos rfl, decide_eq_true hm]; rfl
                  rw [e]
                  refine iteF ⟨_, _, xs, vs, frs, rfl, (sm2.trans sm3).trans sm4, te4, kn4, eo4, hvs4, g1, g2, g2b, g3, g4, fun j p q hj h1 h2 h3 => ?_, g6⟩
                  by_cases hji : j = i
                  · subst hji
                    rw [ep] at h1
                    rw [eq] at h2
                    cases h1
                    cases h2
                    exact hm
                  · exact g5 j p q (by omega) h1 h2 h3
                · have e : (if true = true then !decide (swapAt one i one[i] one[i + 1] ∈ xs.map (·.1)) else decide (swapAt one i one[i] one[i + 1] ∈ xs.map (·.1))) = true := by rw [if_pos rfl, decide_eq_false hm]; rfl
                  rw [e]
                  have hxs2 : xs.length ≤ 3125 := by
                    have := perms_few kn4.nodup g1 hlen
                    rw [List.length_map] at this
                    exact this
                  have hnd' : ((xs ++ [(swapAt one i one[i] one[i + 1], p4)]).map (·.1)).Nodup := by
                    rw [List.map_append, List.nodup_append]
                    refine ⟨kn4.nodup, by simp, fun x hx y hy => ?_⟩
                    rw [List.mem_singleton.mp (show y ∈ [swapAt one i one[i] one[i + 1]] from hy)]
                    exact fun e => hm (e ▸ hx)
                  have hmem' : ∀ r, r ∈ (xs ++ [(swapAt one i one[i] one[i + 1], p4)]).map (·.1) ↔ r ∈ xs.map (·.1) ∨ r = swapAt one i one[i] one[i + 1] := fun r => by
                    rw [List.map_append, List.mem_append]
                    refine or_congr Iff.rfl ?_
                    show r ∈ [swapAt one i one[i] one[i + 1]] ↔ _
                    rw [List.mem_singleton]
                  have hE' : ∀ r ∈ (xs ++ [(swapAt one i one[i] one[i + 1], p4)]).map (·.1), Eqv row r := fun r hr => by
                    rcases (hmem' r).mp hr with h | h
                    · exact g1 r h
                    · rw [h]; exact hE
                  have hxs3 : xs.length + 1 ≤ 3125 := by
                    have := perms_few hnd' hE' hlen
                    rw [List.length_map, List.length_append] at this
                    exact this
                  have hvl2 := Paired.length hvs4
                  refine iteT ⟨.ref d, rfl, .ref p4, rfl, d, p4, _, xs, rfl, rfl, rfl, hrow, kn4, hm, by omega, ?_⟩
                  have te5 : TE2 H4 (upd H4 d (KnO P w d (xs ++ [(swapAt one i one[i] one[i + 1], p4)]))) := te_not kn4.at' fun vs z => by cases z
                  have eo5 : (upd H4 d (KnO P w d (xs ++ [(swapAt one i one[i] one[i + 1], p4)]))) o = some (.lst vs) := by rw [upd_ne hod]; exact eo4
                  refine ⟨.ref o, rfl, .inl ⟨rfl, _, SqL.of eo5⟩, .ref p4, rfl, o, _, _, rfl, rfl, eo5, ?_, ?_⟩
                  · refine Nat.lt_of_le_of_lt (m := 10000) ?_ (by decide)
                    omega
                  · have te6 := te5.trans (te_put (o := .lst (vs ++ [.ref p4])) eo5)
                    have hsn : Paired (RowT (upd (upd H4 d (KnO P w d (xs ++ [(swapAt one i one[i] one[i + 1], p4)]))) o (.lst (vs ++ [.ref p4])))) (vs ++ [.ref p4]) (frs ++ [swapAt one i one[i] one[i + 1]]) := Paired.snoc (rows_te te6 hvs4) (hrow.te te6)
                    refine ⟨_, _, xs ++ [(swapAt one i one[i] one[i + 1], p4)], vs ++ [V.ref p4], frs ++ [swapAt one i one[i] one[i + 1]], rfl, same_put (same_put ((sm2.trans sm3).trans sm4) nd) noH, te4.trans te6, ⟨?_, hnd', fun x hx => ?_⟩, upd_same, hsn, hE', (hmem' _).mpr (.inl g2), (hmem' _).mpr (.inl g2b), fun r hr => ?_, fun r hr => ?_, fun j p q hj h1 h2 h3 => ?_, ?_⟩
                    · rw [upd_ne hdo]
                      exact upd_same
                    · rcases List.mem_append.mp hx with h | h
                      · exact (kn4.rows x h).te te6
                      · rw [List.mem_singleton.mp h]
                        exact hrow.te te6
                    · rcases List.mem_append.mp hr with h | h
                      · exact (hmem' r).mpr (.inl (g3 r h))
                      · exact (hmem' r).mpr (.inr (List.mem_singleton.mp h))
                    · rcases (hmem' r).mp hr with h | h
                      · rcases g4 r h with z | z | z
                        · exact .inl (List.mem_append_left _ z)
                        · exact .inr (.inl z)
                        · exact .inr (.inr fun r' hs => (hmem' r').mpr (.inl (z r' hs)))
                      · rw [h]
                        exact .inl (List.mem_append_right _ List.mem_cons_self)
                    · by_cases hji : j = i
                      · subst hji
                        rw [ep] at h1
                        rw [eq] at h2
                        cases h1
                        cases h2
                        exact (hmem' _).mpr (.inr rfl)
                      · exact (hmem' _).mpr (.inl (g5 j p q (by omega) h1 h2 h3))
                    · rw [List.length_append, List.length_append, List.length_singleton, List.length_singleton]
                      omega
          · obtain ⟨v4, v5, xs, vs, frs, rfl, sm2, te2, kn2, eo2, hvs2, g1, g2, g2b, g3, g4, g5, g6⟩ := hP
            refine ⟨_, v4, v5, xs, vs, frs, rfl, sm2, kn2, eo2, hvs2, g1, g2, g3, fun r hr => ?_, g6⟩
            rcases g4 r hr with z | z | z
            · exact .inl z
            · subst z
              refine .inr fun r' hs => ?_
              obtain ⟨j, p, q, h1, h2, h3, rfl⟩ := sw_swapAt hs
              refine g5 j p q ?_ h1 h2 h3
              have := (List.getElem?_eq_some_iff.mp h2).1
              omega
            · exact .inr z
end
end K66
namespace K66
open PySem PySem.Spec PyProof.Rows L2
abbrev nLPut : List Str := ["_law_row_here", "_law_m", "_law_found", "_law_pour_here", "_law_who", "_law_held", "_law_block", "_law_part", "_law_ahead"]
theorem scLPut : FnScope nLPut ["_law_row_here", "_law_m"] (defScope dLPut) := ⟨rfl, rfl, rfl, by decide +kernel, rfl, by decide +kernel, by decide +kernel⟩
/-! ## what the dict of parts says -/
theorem look_one {k j : Int} {v : List Int} : List.lookup j [(k, v)] = if j = k then some v else none := by
  rw [List.lookup_cons]
  by_cases e : j = k
  · rw [if_pos e, e, beq_self_eq_true]
  · have : (j == k) = false := by simpa using e
    rw [if_neg e, this]
    rfl
theorem overL_snoc {ps : List (Int × List Int)} {k : Int} {v : List Int} (h : k ∉ ps.map (·.1)) : overL (fun _ => none) (ps ++ [(k, v)]) = putL (overL (fun _ => none) ps) k v := by
  funext j
  unfold overL putL
  rw [List.lookup_append, look_one]
  by_cases e : j = k
  · rw [if_pos e, if_pos e, e, lookup_none h]
    rfl
  · rw [if_neg e, if_neg e]
    dsimp only
    cases ps.lookup j <;> rfl
def mergeL (L : Int → Option (List Int)) (ps : List (Int × List Int)) : Int → Option (List Int) := fun k => match L k with | some v => some v | none => ps.lookup k
theorem mergeL_nil (L : Int → Option (List Int)) : mergeL L [] = L := by
  funext k
  unfold mergeL
  cases L k <;> rfl
theorem mergeL_snoc {L : Int → Option (List Int)} {ps : List (Int × List Int)} {k : Int} {v : List Int} (h : k ∉ ps.map (·.1)) : mergeL L (ps ++ [(k, v)]) = putL (mergeL L ps) k ((mergeL L ps k).getD v) := by
  funext j
  unfold mergeL putL
  rw [List.lookup_append, look_one, lookup_none h]
  by_cases e : j = k
  · subst e
    rw [if_pos rfl, if_pos rfl, lookup_none h]
    cases L j <;> rfl
  · rw [if_neg e, if_neg e]
    dsimp only
    cases L j with
    | some u => rfl
    | none => cases ps.lookup j <;> rfl
theorem lookup_zip {α : Type} : ∀ {l : List Int} {m : List α} {i : Nat} {k : Int} {v : α}, l.Nodup → l[i]? = some k → m[i]? = some v → (l.zip m).lookup k = some v
  | [], _, _, _, _, _, h, _ => by cases h
  | _ :: _, [], _, _, _, _, _, h => by cases h
  | x :: l, y :: m, 0, k, v, _, h1, h2 => by
    cases h1
    cases h2
    rw [List.zip_cons_cons, List.lookup_cons, beq_self_eq_true]
  | x :: l, y :: m, i + 1, k, v, hn, h1, h2 => by
    obtain ⟨n1, n2⟩ := List.nodup_cons.mp hn
    have h1' : l[i]? = some k := h1
    have h2' : m[i]? = some v := h2
    have hne : (k == x) = false := by
      have : k ≠ x := fun e => n1 (e ▸ List.mem_of_getElem? h1')
      simpa using this
    rw [List.zip_cons_cons, List.lookup_cons, hne]
    exact lookup_zip n2 h1' h2'
theorem take_fst {l : List Int} {m : List (List Int)} (h : l.length = m.length) (i : Nat) : ((l.zip m).take i).map (·.1) = l.take i := by
  rw [List.map_take, zip_fst _ _ h]
theorem not_taken {l : List Int} (hn : l.Nodup) {i : Nat} {k : Int} (h : l[i]? = some k) : k ∉ l.take i := by
  intro hm
  obtain ⟨j, hj⟩ := List.getElem?_of_mem hm
  have hji : j < i := by
    have := (List.getElem?_eq_some_iff.mp hj).1
    rw [List.length_take] at this
    omega
  rw [List.getElem?_take_of_lt hji] at hj
  have := (List.getElem?_inj (List.getElem?_eq_some_iff.mp hj).1 hn).mp (hj.trans h.symm)
  omega
theorem Held.short {H : Hp} {kvs : List (L2.Key × V)} {L : Int → Option (List Int)} (h : Held H kvs L) (hk : ∀ k, (L k).isSome = true → 0 ≤ k ∧ k < 8) : kvs.length ≤ 8 := by
  obtain ⟨ks, h1, h2, h3⟩ := h.keys
  have := sub_len (m := (List.range 8).map fun i => ((i : Nat) : Int)) h2 fun k hm => by
    have := hk k ((h3 k).mp hm)
    refine List.mem_map.mpr ⟨k.toNat, List.mem_range.mpr (by omega), by omega⟩
  rw [List.length_map, List.length_range] at this
  have e : kvs.length = ks.length := by rw [← List.length_map (f := (·.1)), h1, List.length_map]
  omega
theorem look_rng {q : Pour} (g : Good 8 q) {k : Int} (h : (look k q).isSome = true) : 0 ≤ k ∧ k < 8 := by
  by_cases hm : k ∈ q.1
  · exact g.rng k hm
  · rw [look_none hm] at h
    cases h
theorem over_look (q : Pour) : overL (fun _ => none) (q.1.zip q.2) = fun k => look k q := by
  funext k
  unfold overL look
  cases (q.1.zip q.2).lookup k <;> rfl
theorem key_rng {q : Pour} (g : Good 8 q) {j : Nat} {k : Int} (h : (((q.1.zip q.2).take j).lookup k).isSome = true) : 0 ≤ k ∧ k < 8 := by
  by_cases hm : k ∈ ((q.1.zip q.2).take j).map (·.1)
  · rw [take_fst g.len.symm] at hm
    exact g.rng k (List.mem_of_mem_take hm)
  · rw [lookup_none hm] at h
    cases h
theorem over_rng {q : Pour} (g : Good 8 q) {j : Nat} {k : Int} (h : (overL (fun _ => none) ((q.1.zip q.2).take j) k).isSome = true) : 0 ≤ k ∧ k < 8 := by
  unfold overL at h
  cases e : ((q.1.zip q.2).take j).lookup k with
  | none => rw [e] at h; cases h
  | some u => exact key_rng g (by rw [e]; rfl)
theorem merge_rng {q f : Pour} (g : Good 8 q) (gf : Good 8 f) {j : Nat} {k : Int} (h : (mergeL (fun k => look k q) ((f.1.zip f.2).take j) k).isSome = true) : 0 ≤ k ∧ k < 8 := by
  unfold mergeL at h
  cases e : look k q with
  | some u => exact look_rng g (by rw [e]; rfl)
  | none =>
    dsimp only at h
    rw [e] at h
    exact key_rng gf h
theorem merge_look {q f : Pour} (g : Good 8 q) (gf : Good 8 f) : mergeL (fun k => look k q) (f.1.zip f.2) = fun k => look k (joinM f q) := by
  funext k
  rw [join_look gf g]
  rfl
/-- the parts of a pour, by its blocks -/
theorem parts_look {q : Pour} (g : Good 8 q) {i : Nat} {k : Int} {part : List Int} (h1 : q.1[i]? = some k) (h2 : q.2[i]? = some part) : look k q = some part := lookup_zip (asc_nodup g.asc) h1 h2
theorem held_getD {Hh : Hp} {kvs : List (L2.Key × V)} {L : Int → Option (List Int)} {kk : Int} {v : V} {part : List Int} (h : Held Hh kvs L) (hv : IntsT Hh v part) : IntsT Hh ((valV kvs (Sum.inl kk)).getD v) ((L kk).getD part) := by
  cases hm : L kk with
  | some u =>
    obtain ⟨v', hv', hvi⟩ := h.some' hm
    rw [hv']
    exact hvi
  | none =>
    rw [h.none' hm]
    exact hv
/-- `found.append((tuple(who), tuple([held[block] for block in who])))` -/
theorem fin_read {K : PySem.W.Frag} {H : Hp} {o lw dd : Addr} {kvs : List (L2.Key × V)} {vs : List V} {q : Pour} {s0 s1 s3 s6 s7 s8 : Option V} {D : Ends} (eo : H o = some (.lst vs)) (el : H lw = some (.lst (q.1.map V.int))) (ed : H dd = some (.dK kvs))
    (hh : Held H kvs (fun k => look k q)) (gq : Good 8 q) (hl : vs.length ≤ 100) (h : ∀ (H' : Hp) (v : V), Same H H' → PourT H' v q → D.nx [s0, s1, some (.ref o), s3, some (.ref lw), some (.ref dd), s6, s7, s8] (upd H' o (.lst (vs ++ [v])))) :
    tDrop (tBM K "list" rAppend (tVar 2) (tCons (tTup (tCons (tCB (rTupC K) (tCons (tVar 4) tNil)) (tCons (tCB (rTupC K) (tCons (tLc (iList K (tVar 4)) (gName 6) tYes (tDGet (tVar 5) (tVar 6)) [6]) tNil)) tNil))) tNil)) D [s0, s1, some (.ref o), s3, some (.ref lw), some (.ref dd), s6, s7, s8] H := by
  refine ⟨.ref o, rfl, .inl ⟨rfl, _, SqL.of eo⟩, .ref lw, rfl, lw, _, rfl, .inl ⟨SqL.of el, fun t nt => ?_⟩⟩
  have smt := same_upd nt (o := .tup (q.1.map V.int))
  refine ⟨.ref lw, rfl, lw, rfl, ⟨_, SqL.of (smt _ _ el)⟩, fun D2 hD => ?_⟩
  have et : (upd H t (.tup (q.1.map V.int))) t = some (.tup (q.1.map V.int)) := upd_same
  generalize upd H t (.tup (q.1.map V.int)) = H1 at smt hD et
  refine lc_list (K := K) (a := lw) (xs := q.1.map V.int) (fun i H' => Same H1 H' ∧ ∃ ys, H' D2 = some (.lst ys) ∧ Paired (IntsT H') ys (q.2.take i)) ⟨same_upd hD, [], upd_same, .nil⟩ (fun i H' _ hP => SqL.of (hP.1 _ _ (smt _ _ el))) (fun i z H' hz hP => ?_) fun H' hP => ?_
  · obtain ⟨sm, ys, eD, hy⟩ := hP
    obtain ⟨n, hn, rfl⟩ := map_some hz
    have hi : i < q.2.length := by
      rw [gq.len]
      exact (List.getElem?_eq_some_iff.mp hn).1
    have h2 : q.2[i]? = some q.2[i] := List.getElem?_eq_getElem hi
    obtain ⟨v, hv, hvi⟩ := hh.some' (parts_look gq hn h2)
    refine ⟨rfl, tYes_ok (iteT ?_)⟩
    refine ⟨.ref dd, rfl, .int n, rfl, dd, v, rfl, ?_, ys, eD, ?_, same_put sm hD, ys ++ [v], upd_same, ?_⟩
    · rw [← hv]
      exact DGet.k (k := Sum.inl n) (sm _ _ (smt _ _ ed))
    · rw [Paired.length hy]
      refine lt_line (take_le _ _) ?_
      have := gq.short
      have := gq.len
      omega
    · rw [List.take_add_one, h2]
      exact Paired.snoc (parts_te (te_put eD) hy) (hvi.te (TE2.of (smt.trans (same_put sm hD))))
  · obtain ⟨sm, ys, eD, hy⟩ := hP
    rw [List.length_map, ← gq.len, List.take_length] at hy
    refine ⟨D2, _, rfl, .inl ⟨SqL.of eD, fun t2 nt2 => ?_⟩⟩
    refine ⟨by show 2 ≤ sizeLine; decide, fun t3 nt3 => ?_⟩
    have sm8 := (same_upd nt2 (o := .tup ys)).trans (same_upd nt3 (o := .tup [.ref t, .ref t2]))
    have smA := (smt.trans sm).trans sm8
    refine ⟨o, vs, .ref t3, rfl, rfl, smA _ _ eo, lt_line (m := 100) hl (by decide), ?_⟩
    exact h _ (.ref t3) smA ⟨t3, .ref t, .ref t2, rfl, upd_same, ⟨t, rfl, sm8 _ _ (sm _ _ et)⟩, ⟨t2, ys, rfl, same_upd nt3 _ _ upd_same, parts_te (TE2.of sm8) hy⟩⟩
section
variable {P : Program} {w : World} {K : PySem.W.Frag} {mg : Str → Option Value} {base : Heap}
theorem ok_lput {f : Addr} {fd : FuncData} {k : Nat} (F : Fun K "_law_put" "_law_put" dLPut f fd) (mli : mg "list" = none) (mz : mg "zip" = none) (ml : mg "len" = none) (mse : mg "set" = none) (mt : mg "tuple" = none) (mso : mg "sorted" = none) :
    FnOk P w K mg base CX0 (k + 1) f fd ["_law_row_here", "_law_m"] spPut := by
  refine F.ok scLPut (fun vs H Q E h => ?_) (fun cdv A outer s H vs Q E hr h => ?_)
  · obtain ⟨x, row, m, rfl, _⟩ := h
    rfl
  · obtain ⟨x, row, m, rfl, hx, good, hlen, q⟩ := h
    refine ⟨_, pss_cons (ps_set (i := 2) scLPut.nd rfl (.inl rfl) (pe_lst pa_nil))
      (pss_cons (ps_for PassesOwn.never rfl (pi_tup (pv 0)) (pg_name (i := 3) scLPut.nd rfl (.inl rfl))
        (pss_cons (ps_asg (pe_tup (pa_cons (pe_callTy call_list_of (by rfl) mli boot_list' (pa_cons (pe_ix ix_tup (pv 3) pe_int (fun _ _ => rfl)) pa_nil)) (pa_cons pe_dnewK pa_nil))) (pg_tup rfl (pgs_cons (pg_name (i := 4) scLPut.nd rfl (.inl rfl)) (pgs_cons (pg_name (i := 5) scLPut.nd rfl (.inr rfl)) pgs_nil))))
        (pss_cons (ps_for PassesOwn.never rfl (RZ.pi_zipA (by rfl) mz (pa_cons (pe_ix ix_tup (pv 3) pe_int (fun _ _ => rfl)) (pa_cons (pe_ix ix_tup (pv 3) pe_int (fun _ _ => rfl)) pa_nil)))
            (pg_tup rfl (pgs_cons (pg_name (i := 6) scLPut.nd rfl (.inl rfl)) (pgs_cons (pg_name (i := 7) scLPut.nd rfl (.inl rfl)) pgs_nil)))
          (pss_one (ps_asg (pv 7) (pg_sub (pv 5) (pv 6) (set_dict (hu_of hr))))))
        (pss_cons (ps_while PassesOwn.never (PW.pt (pw_and (pt_cmpR (op_neD hr.units) (pv 2) (pe_lst pa_nil) (nomark _))
            (pw_and1 (pt_cmpR op_le (pe_callB cr_lenSet (by rfl) ml boot_len' (pa_cons (pe_callTy (cr_setI rfl) (by rfl) mse boot_set' (pa_cons (pe_op op_catA (pe_ix ix_tup (pe_ix ix_list (pv 2) (pe_un un_neg pe_int) (fun _ _ => rfl)) pe_int (fun _ _ => rfl))
              (pe_callTy call_tuple_of (by rfl) mt boot_tuple' (pa_cons (pv 4) pa_nil))) pa_nil)) pa_nil)) (pv 1) (nomark _)))))
            (pss_cons (ps_set (i := 8) scLPut.nd rfl (.inl rfl) (pe_bm0 PySem.F.plainAttrs_list PySem.F.slot_list_pop PySem.F.type_list_pop mt_pop (pv 2)))
            (pss_cons (ps_for PassesOwn.never rfl (RZ.pi_zipA (by rfl) mz (pa_cons (pe_ix ix_tup (pv 8) pe_int (fun _ _ => rfl)) (pa_cons (pe_ix ix_tup (pv 8) pe_int (fun _ _ => rfl)) pa_nil)))
                (pg_tup rfl (pgs_cons (pg_name (i := 6) scLPut.nd rfl (.inl rfl)) (pgs_cons (pg_name (i := 7) scLPut.nd rfl (.inl rfl)) pgs_nil)))
              (pss_one (ps_asg (pe_dget2 (hu_of hr) (pv 5) (pv 6) (pv 7) ⟨rfl, rfl, rfl, rfl⟩) (pg_sub (pv 5) (pv 6) (set_dict (hu_of hr))))))
            (pss_one (ps_set (i := 4) scLPut.nd rfl (.inl rfl) (pe_callB (cr_sortedSet rfl) (by rfl) mso boot_sorted' (pa_cons (pe_callTy (cr_setI rfl) (by rfl) mse boot_set' (pa_cons (pe_op op_cat (pe_callTy call_list_of (by rfl) mli boot_list' (pa_cons (pe_ix ix_tup (pv 8) pe_int (fun _ _ => rfl)) pa_nil)) (pv 4)) pa_nil)) pa_nil)))))))
        (pss_one (ps_expr (pe_bm PySem.F.plainAttrs_list PySem.F.slot_list_append PySem.F.type_list_append mt_append (pv 2) (pa_cons (pe_tup (pa_cons (pe_callTy call_tuple_of (by rfl) mt boot_tuple' (pa_cons (pv 4) pa_nil))
            (pa_cons (pe_callTy call_tuple_of (by rfl) mt boot_tuple' (pa_cons (pe_lc (own := [("_law_block", 6)]) (g := gName 6) (tt := tYes) rfl scLPut.nd (pi_list (pv 4)) (blkOk_by (N := nLPut) (sc := defScope dLPut) (by decide +kernel)) (fun _ _ _ _ _ => pg_name (i := 6) scLPut.nd rfl (Or.inl rfl)) (fun _ _ _ _ _ => pts_nil)
              (fun _ _ _ _ _ => pe_dget (hu_of hr) (pv 5) (pv 6) (fun _ _ => rfl))) pa_nil)) pa_nil))) pa_nil))))))))
      (pss_one (ps_ret (pe_callTy call_tuple_of (by rfl) mt boot_tuple' (pa_cons (pv 2) pa_nil))))), ?_⟩
    obtain ⟨a, ps, rfl, ea, hps⟩ := hx
    have hpl := Paired.length hps
    refine ⟨Nat.zero_le _, fun o no => ?_⟩
    have s1 : Same H (upd H o (.lst [])) := same_upd no
    refine ⟨.ref a, rfl, a, rfl, ⟨_, SqT.of (s1 _ _ ea)⟩, ?_⟩
    refine for_tup (xs := ps) (fun i σ H' => ∃ v3 v4 v5 v6 v7 v8 vs, σ = [some (.ref a), some (.int m), some (.ref o), v3, v4, v5, v6, v7, v8] ∧ Same H H' ∧ H' o = some (.lst vs) ∧ Paired (PourT H') vs ((row.take i).foldl (pushM m) []).reverse) ⟨none, none, none, none, none, none, [], rfl, s1, upd_same, .nil⟩
      (fun i σ H' _ hP => by obtain ⟨_, _, _, _, _, _, _, _, sm, _⟩ := hP; exact SqT.of (sm _ _ ea)) (fun i y σ H' hy hP => ?_) fun σ H' hP => ?_
    · obtain ⟨v3, v4, v5, v6, v7, v8, vs, rfl, sm, eo, hvs⟩ := hP
      obtain ⟨p, hp, hyp0⟩ := paired_get2 hps hy
      have gp : Good 8 p := good p (List.mem_of_getElem? hp)
      have gtake : ∀ x ∈ row.take i, Good 8 x := fun x hx => good x (List.mem_of_mem_take hx)
      have hR := putR_all (m := m) (row.take i) [] [] (fun x hx => absurd hx List.not_mem_nil) gtake trivial
      generalize hfs : (row.take i).foldl (pushM m) [] = fs at hvs hR
      have htar : (row.take (i + 1)).foldl (pushM m) [] = pushM m fs p := by
        rw [List.take_add_one, hp, List.foldl_append, hfs]
        rfl
      have hlfs : fs.length ≤ 100 := by
        have h1 := hR.2.2.2
        have h2 := take_le row i
        rw [List.length_nil] at h1
        omega
      have hyp := hyp0.te (TE2.of sm)
      obtain ⟨e, z1, z2, rfl, ee, ⟨e1, rfl, ee1⟩, ⟨e2, us, rfl, ee2, hus⟩⟩ := hyp
      have hul := Paired.length hus
      -- who, held = (list(..), {})
      refine ⟨.ref e, rfl, e, _, 0, .ref e1, rfl, rfl, SqT.of ee, atI_nat (j := 0) rfl, e1, _, rfl, .inr (SqT.of ee1), fun lw nlw => ?_⟩
      have smw := same_upd nlw (o := .lst (p.1.map V.int))
      intro dd ndd
      have smd := same_upd ndd (o := .dK [])
      refine ⟨by show 2 ≤ sizeLine; decide, fun t nt => ⟨t, _, rfl, SqT.of upd_same, rfl, .ref lw, [.ref dd], rfl, .ref dd, [], rfl, rfl, ?_⟩⟩
      have smt := same_upd nt (o := .tup [.ref lw, .ref dd])
      have smA := (smw.trans smd).trans smt
      have elw0 := smt _ _ (smd _ _ (upd_same (H := H') (a := lw) (o := .lst (p.1.map V.int))))
      have edd0 := smt _ _ (upd_same (H := (upd H' lw (.lst (p.1.map V.int)))) (a := dd) (o := .dK []))
      have noL : lw ≠ o := fun z => by rw [z, eo] at nlw; cases nlw
      have noD : dd ≠ o := fun z => by
        subst z
        rw [smw _ _ eo] at ndd
        cases ndd
      have hLD : lw ≠ dd := fun z => by
        subst z
        rw [upd_same] at ndd
        cases ndd
      have nlH : H lw = none := sm.free nlw
      have ndH : H dd = none := sm.free (smw.free ndd)
      generalize (upd (upd (upd H' lw (.lst (p.1.map V.int))) dd (.dK [])) t (.tup [.ref lw, .ref dd])) = H1 at smA elw0 edd0
      -- the parts
      refine ⟨.ref e, rfl, e, _, 0, _, rfl, rfl, SqT.of (smA _ _ ee), atI_nat (j := 0) rfl, .ref e, rfl, e, _, 1, _, rfl, rfl, SqT.of (smA _ _ ee), atI_nat (j := 1) rfl, e1, e2, p.1.map V.int, us, rfl, .inr ⟨SqT.of (smA _ _ ee1), SqT.of (smA _ _ ee2), ?_⟩⟩
      refine RZ.for_zipT (xs := p.1.map V.int) (ys := us) (by rw [List.length_map, hul, gp.len]) (fun j σ H2 => ∃ v6 v7 v8 kvs, σ = [some (.ref a), some (.int m), some (.ref o), some (.ref e), some (.ref lw), some (.ref dd), v6, v7, v8] ∧ Same H H2 ∧ TE2 H1 H2 ∧ H2 o = some (.lst vs) ∧ H2 lw = some (.lst (p.1.map V.int)) ∧ H2 dd = some (.dK kvs) ∧ Held H2 kvs (overL (fun _ => none) ((p.1.zip p.2).take j)))
        ⟨v6, v7, v8, [], rfl, sm.trans smA, TE2.refl _, smA _ _ eo, elw0, edd0, Held.nil _⟩ (fun j σ H2 hP2 => by obtain ⟨_, _, _, _, _, _, te2, _⟩ := hP2; exact ⟨SqT.of (te2 _ _ (smA _ _ ee1)), SqT.of (te2 _ _ (smA _ _ ee2))⟩) (fun j k v T σ H2 hk hv hP2 nT => ?_) fun σ H2 hP2 => ?_
      · obtain ⟨v6, v7, v8, kvs, rfl, sm2, te2, eo2, el2, ed2, hh⟩ := hP2
        obtain ⟨kk, hkk, rfl⟩ := map_some hk
        obtain ⟨part, hpart, hvp⟩ := paired_get2 hus hv
        have smT := same_upd nT (o := .tup [.int kk, v])
        have hnk : kk ∉ ((p.1.zip p.2).take j).map (·.1) := by
          rw [take_fst gp.len.symm]
          exact not_taken (asc_nodup gp.asc) hkk
        have hks : kvs.length ≤ 8 := hh.short fun k hk => over_rng gp hk
        have ed2' := smT _ _ ed2
        refine ⟨T, [.int kk, v], rfl, SqT.of upd_same, rfl, .int kk, [v], rfl, v, [], rfl, rfl, v, rfl, .ref dd, rfl, .int kk, rfl, dd, _, rfl, DPut.k (k := Sum.inl kk) ed2' (lt_line (m := 100) (by omega) (by decide)), ?_⟩
        have te3 := te_not (y := .dK (putK kvs (Sum.inl kk) v)) ed2' fun vs z => by cases z
        have te23 := (TE2.of smT).trans te3
        refine ⟨_, _, _, _, rfl, same_put (sm2.trans smT) ndH, te2.trans te23, ?_, ?_, upd_same, ?_⟩
        · rw [upd_ne (Ne.symm noD)]
          exact smT _ _ eo2
        · rw [upd_ne hLD]
          exact smT _ _ el2
        · have ez : (p.1.zip p.2)[j]? = some (kk, part) := by
            rw [List.getElem?_zip_eq_some]
            exact ⟨hkk, hpart⟩
          rw [List.take_add_one, ez]
          show Held _ _ (overL _ ((p.1.zip p.2).take j ++ [(kk, part)]))
          rw [overL_snoc hnk]
          exact (hh.te te23).put kk (((hvp.te (TE2.of smA)).te te2).te te23)
      · obtain ⟨v6, v7, v8, kvs, rfl, sm2, te2, eo2, el2, ed2, hh⟩ := hP2
        have hz : (p.1.zip p.2).length ≤ (p.1.map V.int).length := by
          rw [List.length_zip, List.length_map]
          exact Nat.min_le_left _ _
        rw [List.take_of_length_le hz, over_look] at hh
        refine ⟨fun n σ H' => ∃ lw kvs vs fs2 q2 v6 v7 v8, σ = [some (.ref a), some (.int m), some (.ref o), some (.ref e), some (.ref lw), some (.ref dd), v6, v7, v8] ∧ Same H H' ∧ H' o = some (.lst vs) ∧ Paired (PourT H') vs fs2.reverse ∧ H' lw = some (.lst (q2.1.map V.int)) ∧ H' dd = some (.dK kvs) ∧ Held H' kvs (fun k => look k q2) ∧ Good 8 q2 ∧ (∀ z ∈ fs2, Good 8 z) ∧ fs2.length = n ∧ n ≤ 100 ∧ pushM m fs2 q2 = pushM m fs p ∧ lw ≠ o ∧ H lw = none ∧ lw ≠ dd,
          ⟨fs.length, lw, kvs, vs, fs, p, v6, v7, v8, rfl, sm2, eo2, pours_te ((TE2.of smA).trans te2) hvs, el2, ed2, hh, gp, hR.1, rfl, hlfs, rfl, noL, nlH, hLD⟩, fun n σ H3 hW => ?_⟩
        clear hh ed2 el2 eo2 te2 sm2 noL nlH hLD
        obtain ⟨lw, kvs, vs2, fs2, q2, v6, v7, v8, rfl, sm3, eo3, hvs3, el3, ed3, hh, gq, gfs2, hn, hn100, hpush, noL, nlH, hLD⟩ := hW
        have hl2 := Paired.length hvs3
        rw [List.length_reverse] at hl2
        refine ⟨.ref o, rfl, Nat.zero_le _, fun t2 nt2 => ?_⟩
        have smt2 := same_upd nt2 (o := .lst [])
        have hok : ∀ v ∈ vs2, Okv (upd H3 t2 (.lst [])) v := fun v hv => by
          obtain ⟨j, hj⟩ := List.getElem?_of_mem hv
          obtain ⟨b, _, hb⟩ := paired_get2 hvs3 hj
          exact (hb.te (TE2.of smt2)).okv
        refine neNil (smt2 _ _ eo3) upd_same hok ⟨_, rfl, ?_⟩
        cases fs2 with
        | nil =>
          have e1 : vs2 = [] := List.eq_nil_of_length_eq_zero hl2
          subst e1
          refine iteF (iteF ?_)
          have sm4 := sm3.trans smt2
          have el4 := smt2 _ _ el3
          have ed4 := smt2 _ _ ed3
          have eo4 := smt2 _ _ eo3
          have hh4 := hh.te (TE2.of smt2)
          generalize (upd H3 t2 (.lst [])) = H4 at sm4 el4 ed4 eo4 hh4
          refine fin_read eo4 el4 ed4 hh4 gq (Nat.zero_le _) fun H5 v sm5 hv => ?_
          refine ⟨_, _, _, _, _, _, [v], rfl, same_put (sm4.trans sm5) no, upd_same, ?_⟩
          rw [htar, ← hpush]
          exact .cons (hv.te (te_put (sm5 _ _ eo4))) .nil
        | cons f fs3 =>
          have hl3 : vs2.length = fs3.length + 1 := hl2
          have hne : vs2 ≠ [] := fun z => by rw [z] at hl3; cases hl3
          rw [decide_eq_true hne]
          rw [List.reverse_cons] at hvs3
          obtain ⟨vs4, u, rfl, hvs4, hu⟩ := paired_snoc_inv hvs3
          have gf : Good 8 f := gfs2 f List.mem_cons_self
          have hu' := hu.te (TE2.of smt2)
          have hu2 := hu'
          obtain ⟨b, x1, x2, rfl, eb, ⟨b1, rfl, eb1⟩, ⟨b2, ws, rfl, eb2, hws⟩⟩ := hu'
          refine iteT ?_
          have sm4 := sm3.trans smt2
          have el4 := smt2 _ _ el3
          have ed4 := smt2 _ _ ed3
          have eo4 := smt2 _ _ eo3
          have hh4 := hh.te (TE2.of smt2)
          have hvs4' := pours_te (TE2.of smt2) hvs4
          generalize (upd H3 t2 (.lst [])) = H4 at sm4 el4 ed4 eo4 hh4 hvs4' hu2 eb eb1 eb2 hws
          have gj := join_good gf gq
          have hjl : (uni (f.1 ++ q2.1)).length ≤ 8 := gj.short
          have hfs := gf.short
          have hqs := gq.short
          refine ⟨.ref o, rfl, 1, rfl, o, _, -1, .ref b, rfl, rfl, SqL.of eo4, atI_last _ _, b, _, 0, .ref b1, rfl, rfl, SqT.of eb, atI_nat (j := 0) rfl, .ref lw, rfl, lw, _, rfl, .inl ⟨SqL.of el4, fun t3 nt3 => ?_⟩⟩
          have smt3 := same_upd nt3 (o := .tup (q2.1.map V.int))
          refine ⟨b1, t3, _, _, rfl, rfl, SqT.of (smt3 _ _ eb1), SqT.of upd_same, ?_, fun z => ?_, fun _ z => ?_, fun _ _ t4 nt4 => ?_⟩
          · rw [List.length_map, List.length_map]
            exact le_line (m := 100) (by omega) (by decide)
          · have := gf.two
            rw [List.map_eq_nil_iff.mp z] at this
            exact absurd this (by decide)
          · have := gq.two
            rw [List.map_eq_nil_iff.mp z] at this
            exact absurd this (by decide)
          · have smt4 := smt3.trans (same_upd nt4 (o := .tup (f.1.map V.int ++ q2.1.map V.int)))
            refine ⟨t4, f.1 ++ q2.1, rfl, .inr (SqT.of (by rw [upd_same, List.map_append])), by rw [List.length_append]; omega, fun t5 nt5 => ?_⟩
            refine ⟨t5, _, _, rfl, upd_same, by omega, .int m, rfl, _, _, rfl, rfl, _, rfl, ?_⟩
            have smB := smt4.trans (same_upd nt5 (o := SetO w t5 (fun j => decide (j ∈ f.1 ++ q2.1)) (uni (f.1 ++ q2.1)).length))
            generalize hH5 : upd _ t5 _ = H5
            have smB' : Same H4 H5 := by rw [← hH5]; exact smB
            clear hH5 smB smt4 smt3
            have sm5 := sm4.trans smB'
            have el5 := smB' _ _ el4
            have ed5 := smB' _ _ ed4
            have eo5 := smB' _ _ eo4
            have hh5 := hh4.te (TE2.of smB')
            have hvs5 := pours_te (TE2.of smB') hvs4'
            have hu5 := hu2.te (TE2.of smB')
            by_cases hc : (((uni (f.1 ++ q2.1)).length : Nat) : Int) ≤ m
            · rw [decide_eq_true hc]
              refine iteT ?_
              have hpush2 : pushM m (f :: fs3) q2 = pushM m fs3 (joinM f q2) := by
                show (if ((uni (f.1 ++ q2.1)).length : Int) ≤ m then _ else _) = _
                rw [if_pos hc]
              have hn2 : fs3.length + 1 = n := hn
              refine ⟨fun σ H' => ∃ lw kvs vs q2 v6 v7 v8, σ = [some (.ref a), some (.int m), some (.ref o), some (.ref e), some (.ref lw), some (.ref dd), v6, v7, v8] ∧ Same H H' ∧ H' o = some (.lst vs) ∧ Paired (PourT H') vs fs3.reverse ∧ H' lw = some (.lst (q2.1.map V.int)) ∧ H' dd = some (.dK kvs) ∧ Held H' kvs (fun k => look k q2) ∧ Good 8 q2 ∧ pushM m fs3 q2 = pushM m fs p ∧ lw ≠ o ∧ H lw = none ∧ lw ≠ dd, fun σ' H' hN => ?_, ?_⟩
              · obtain ⟨lw, kvs, vs, q3, v6, v7, v8, rfl, g1, g2, g3, g4, g5, g6, g7, g8, g9, g10, g11⟩ := hN
                exact ⟨fs3.length, by omega, lw, kvs, vs, fs3, q3, v6, v7, v8, rfl, g1, g2, g3, g4, g5, g6, g7, fun z hz => gfs2 z (List.mem_cons_of_mem _ hz), rfl, by omega, g8, g9, g10, g11⟩
              · refine ⟨.ref o, rfl, .inl ⟨rfl, _, SqL.of eo5⟩, o, _, .ref b, rfl, rfl, eo5, last_get _ _, ?_⟩
                rw [List.dropLast_concat]
                have te6 : TE2 H5 (upd H5 o (.lst vs4)) := te_put eo5
                have sm6 : Same H (upd H5 o (.lst vs4)) := same_put sm5 no
                have el6 : (upd H5 o (.lst vs4)) lw = some (.lst (q2.1.map V.int)) := by rw [upd_ne noL]; exact el5
                have ed6 : (upd H5 o (.lst vs4)) dd = some (.dK kvs) := by rw [upd_ne noD]; exact ed5
                have eo6 : (upd H5 o (.lst vs4)) o = some (.lst vs4) := upd_same
                have hh6 := hh5.te te6
                have hvs6 := pours_te te6 hvs5
                have eb' := smB' _ _ eb
                have eb1' := te6 _ _ (smB' _ _ eb1)
                have eb2' := te6 _ _ (smB' _ _ eb2)
                have eb6 := te6 _ _ eb'
                have hws6 := parts_te ((TE2.of smB').trans te6) hws
                generalize upd H5 o (.lst vs4) = H6 at sm6 el6 ed6 eo6 hh6 hvs6 eb1' eb2' eb6 hws6
                have hwl := Paired.length hws6
                refine ⟨.ref b, rfl, b, _, 0, _, rfl, rfl, SqT.of eb6, atI_nat (j := 0) rfl, .ref b, rfl, b, _, 1, _, rfl, rfl, SqT.of eb6, atI_nat (j := 1) rfl, b1, b2, f.1.map V.int, ws, rfl, .inr ⟨SqT.of eb1', SqT.of eb2', ?_⟩⟩
                refine RZ.for_zipT (xs := f.1.map V.int) (ys := ws) (by rw [List.length_map, hwl, gf.len]) (fun j σ H2 => ∃ v6 v7 kvs, σ = [some (.ref a), some (.int m), some (.ref o), some (.ref e), some (.ref lw), some (.ref dd), v6, v7, some (.ref b)] ∧ Same H H2 ∧ TE2 H6 H2 ∧ H2 o = some (.lst vs4) ∧ H2 lw = some (.lst (q2.1.map V.int)) ∧ H2 dd = some (.dK kvs) ∧ Held H2 kvs (mergeL (fun k => look k q2) ((f.1.zip f.2).take j)))
                  ⟨v6, v7, kvs, rfl, sm6, TE2.refl _, eo6, el6, ed6, by rw [List.take_zero, mergeL_nil]; exact hh6⟩ (fun j σ H2 hP2 => by obtain ⟨_, _, _, _, _, te2, _⟩ := hP2; exact ⟨SqT.of (te2 _ _ eb1'), SqT.of (te2 _ _ eb2')⟩) (fun j k v T σ H2 hk hv hP2 nT => ?_) fun σ H2 hP2 => ?_
                · obtain ⟨v6, v7, kvs, rfl, sm2, te2, eo2, el2, ed2, hh⟩ := hP2
                  obtain ⟨kk, hkk, rfl⟩ := map_some hk
                  obtain ⟨part, hpart, hvp⟩ := paired_get2 hws6 hv
                  have smT := same_upd nT (o := .tup [.int kk, v])
                  have hnk : kk ∉ ((f.1.zip f.2).take j).map (·.1) := by
                    rw [take_fst gf.len.symm]
                    exact not_taken (asc_nodup gf.asc) hkk
                  have hks : kvs.length ≤ 8 := hh.short fun k hk => merge_rng gq gf hk
                  have ed2' := smT _ _ ed2
                  refine ⟨T, [.int kk, v], rfl, SqT.of upd_same, rfl, .int kk, [v], rfl, v, [], rfl, rfl, ?_⟩
                  refine ⟨.ref dd, rfl, dd, rfl, .inl ⟨kvs, .inl ed2'⟩, .int kk, rfl, v, rfl, _, DGet.k (k := Sum.inl kk) ed2', ?_⟩
                  refine ⟨.ref dd, rfl, .int kk, rfl, dd, _, rfl, DPut.k (k := Sum.inl kk) ed2' (lt_line (m := 100) (by omega) (by decide)), ?_⟩
                  have te3 := te_not (y := .dK (putK kvs (Sum.inl kk) ((valV kvs (Sum.inl kk)).getD v))) ed2' fun vs z => by cases z
                  have te23 := (TE2.of smT).trans te3
                  refine ⟨_, _, _, rfl, same_put (sm2.trans smT) ndH, te2.trans te23, ?_, ?_, upd_same, ?_⟩
                  · rw [upd_ne (Ne.symm noD)]
                    exact smT _ _ eo2
                  · rw [upd_ne hLD]
                    exact smT _ _ el2
                  · have ez : (f.1.zip f.2)[j]? = some (kk, part) := by
                      rw [List.getElem?_zip_eq_some]
                      exact ⟨hkk, hpart⟩
                    rw [List.take_add_one, ez]
                    show Held _ _ (mergeL _ ((f.1.zip f.2).take j ++ [(kk, part)]))
                    rw [mergeL_snoc hnk]
                    exact (hh.te te23).put kk (held_getD (hh.te te23) ((hvp.te te2).te te23))
                · obtain ⟨v6, v7, kvs, rfl, sm2, te2, eo2, el2, ed2, hh⟩ := hP2
                  have hz : (f.1.zip f.2).length ≤ (f.1.map V.int).length := by
                    rw [List.length_zip, List.length_map]
                    exact Nat.min_le_left _ _
                  rw [List.take_of_length_le hz, merge_look gq gf] at hh
                  refine ⟨.ref b, rfl, b, _, 0, .ref b1, rfl, rfl, SqT.of (te2 _ _ eb6), atI_nat (j := 0) rfl, b1, _, rfl, .inr (SqT.of (te2 _ _ eb1')), fun l1 n1 => ?_⟩
                  have smc := same_upd n1 (o := .lst (f.1.map V.int))
                  refine ⟨.ref lw, rfl, l1, lw, _, _, rfl, rfl, upd_same, smc _ _ el2, ?_, fun l2 n2 => ?_⟩
                  · rw [List.length_map, List.length_map]
                    exact le_line (m := 100) (by omega) (by decide)
                  · have smd := smc.trans (same_upd n2 (o := .lst (f.1.map V.int ++ q2.1.map V.int)))
                    refine ⟨l2, f.1 ++ q2.1, rfl, .inl (SqL.of (by rw [upd_same, List.map_append])), by rw [List.length_append]; omega, fun s5 ns5 => ?_⟩
                    have sme := smd.trans (same_upd ns5 (o := SetO w s5 (fun j => decide (j ∈ f.1 ++ q2.1)) (uni (f.1 ++ q2.1)).length))
                    refine ⟨s5, _, _, rfl, upd_same, by omega, fun ns r hasc hmem hnl nr => ?_⟩
                    have ens : ns = (joinM f q2).1 := asc_unique hasc (uni_asc _) fun z => by
                      rw [hmem]
                      show decide (z ∈ f.1 ++ q2.1) = true ↔ z ∈ uni (f.1 ++ q2.1)
                      rw [uni_mem]
                      exact ⟨of_decide_eq_true, decide_eq_true⟩
                    subst ens
                    have smf := sme.trans (same_upd nr (o := .lst ((joinM f q2).1.map V.int)))
                    have nrH : H r = none := (sm2.trans sme).free nr
                    have eo9 := smf _ _ eo2
                    have ed9 := smf _ _ ed2
                    refine ⟨r, kvs, vs4, joinM f q2, _, _, _, rfl, sm2.trans smf, eo9, pours_te (te2.trans (TE2.of smf)) hvs6, upd_same, ed9, hh.te (TE2.of smf), gj, by rw [← hpush, hpush2], ?_, nrH, ?_⟩
                    · exact Ne.symm (ne_of_none (sme _ _ eo2) nr)
                    · exact Ne.symm (ne_of_none (sme _ _ ed2) nr)
            · rw [decide_eq_false hc]
              refine iteF ?_
              have hpush2 : pushM m (f :: fs3) q2 = q2 :: f :: fs3 := by
                show (if ((uni (f.1 ++ q2.1)).length : Int) ≤ m then _ else _) = _
                rw [if_neg hc]
              have hn2 : fs3.length + 1 = n := hn
              refine fin_read eo5 el5 ed5 hh5 gq (by rw [hl3]; omega) fun H6 v sm6 hv => ?_
              have te6 : TE2 H6 (upd H6 o (.lst ((vs4 ++ [V.ref b]) ++ [v]))) := te_put (sm6 _ _ eo5)
              refine ⟨_, _, _, _, _, _, (vs4 ++ [V.ref b]) ++ [v], rfl, same_put (sm5.trans sm6) no, upd_same, ?_⟩
              rw [htar, ← hpush, hpush2, List.reverse_cons, List.reverse_cons]
              exact Paired.snoc (Paired.snoc (pours_te ((TE2.of sm6).trans te6) hvs5) (hu5.te ((TE2.of sm6).trans te6))) (hv.te te6)
    · obtain ⟨v3, v4, v5, v6, v7, v8, vs, rfl, sm, eo, hvs⟩ := hP
      rw [hpl, List.take_length] at hvs
      refine ⟨.ref o, rfl, o, _, rfl, .inl ⟨SqL.of eo, fun t nt => ?_⟩⟩
      exact q _ (.ref t) (sm.trans (same_upd nt)) ⟨t, vs, rfl, upd_same, pours_te (te_new nt) hvs⟩
end
end K66
namespace K66
open PySem PySem.Spec PyProof.Rows L2
/-! ## keywords alone; repr of a bool; what stands behind an if -/
section
variable {X : Cx} {CX : CXT} {k : Nat} {f : Addr} {fd : FuncData} {ps ks : List Str} {sp : Sp} {E : XK} {x : Str} {p pos : Pos} {kws : List Keyword} {tk : TA} {g : List Value → List Value → List Value} {gV : List V → List V → List V}
/-- f(k = v, ..) -/
theorem pe_onlyK (F : FnOk X.prog X.w X.K X.mg X.base CX k f fd ps sp) (hr : Room k X.A) (hg : Gl X x) (hm : X.mg x = some (.ref f)) (hk : PySem.W.keepIn X.K (.ref f) = true) (hb : KBinds X.K fd ps ks g gV) (hx : Passes CX X E) (hkw : PK X kws tk)
    (hall : (backToKw pos (keywordEach kws X.env)).all (·.1.isSome) = true := by rfl) (hks : (backToKw pos (keywordEach kws X.env)).filterMap (·.1) = ks := by rfl) (hdb : (x == ("__debug__" : Str)) = false := by decide)
    (hpl : ((backTo pos (starEach [] X.env)).any (·.1) || (backToKw pos (keywordEach kws X.env)).any (·.1.isNone)) = false := by rfl) : PE X (.Call (.Name x p) [] kws pos) (tCallK sp gV E tNil tk) := by
  refine ⟨fun pins s σ H Q I h => wpAny_Call_Name_kw (ld_glob I hg hm (PySem.W.callWith_KW0 (h₀ := X.base) I.ok.mod.kin hk hall ?_ hpl) hdb)⟩
  have h : tk σ H fun zs H2 => sp (gV [] zs) H2 Q E := h
  refine thn (hkw.run pos pins s σ H _ I h) fun ws s2 ⟨zs, H2, I2, rz, q2⟩ => ⟨I2.kIn, ?_⟩
  rw [hks]
  exact run_fnk (us := []) (vs := []) F hr hb hx I2 .nil rz q2
end
/-- one parameter, by its name -/
def g1 {α : Type} (us ws : List α) : List α := match us, ws with | [], [w] => [w] | _, _ => []
/-- two parameters, by their names, the second first -/
def g2 {α : Type} (us ws : List α) : List α := match us, ws with | [], [w, u] => [u, w] | _, _ => []
theorem g1_rel {vs : List V} {us : List Value} {zs : List V} {ws : List Value} (h1 : Vals vs us) (h2 : Vals zs ws) : Vals (g1 vs zs) (g1 us ws) := by
  cases h1 with
  | cons _ _ => exact .nil
  | nil =>
    cases h2 with
    | nil => exact .nil
    | cons a t =>
      cases t with
      | nil => exact .cons a .nil
      | cons _ _ => exact .nil
theorem g2_rel {vs : List V} {us : List Value} {zs : List V} {ws : List Value} (h1 : Vals vs us) (h2 : Vals zs ws) : Vals (g2 vs zs) (g2 us ws) := by
  cases h1 with
  | cons _ _ => exact .nil
  | nil =>
    cases h2 with
    | nil => exact .nil
    | cons a t =>
      cases t with
      | nil => exact .nil
      | cons b t =>
        cases t with
        | nil => exact .cons b (.cons a .nil)
        | cons _ _ => exact .nil
section
variable {K : PySem.W.Frag} {x qual : Str} {st : Stmt} {f : Addr} {fd : FuncData}
theorem kb1 {p : Str} (F : Fun K x qual st f fd) (h : ∀ (kV doc pm : Value) (an : Option Addr) (cdv ct : Value) (u : Value), bindArgs (PySem.W.fnOf x qual (defArgs st) (defBody st) (defScope st) .none kV doc pm an cdv ct) ⟨[], [(p, u)]⟩ = pure [(p, u)]) : KBinds K fd [p] [p] g1 g1 := by
  obtain ⟨oc, od, kV, doc, pm, an, cdv, ct, osl, rfl, lk, hcd⟩ := F.ex
  refine ⟨fun s us ws _ hl => ?_, g1_rel⟩
  match us, ws, hl with
  | [], [w], _ => exact .of_eq (h kV doc pm an cdv ct w)
theorem kb2 {p q : Str} (F : Fun K x qual st f fd) (h : ∀ (kV doc pm : Value) (an : Option Addr) (cdv ct : Value) (u v : Value), bindArgs (PySem.W.fnOf x qual (defArgs st) (defBody st) (defScope st) .none kV doc pm an cdv ct) ⟨[], [(q, u), (p, v)]⟩ = pure [(p, v), (q, u)]) : KBinds K fd [p, q] [q, p] g2 g2 := by
  obtain ⟨oc, od, kV, doc, pm, an, cdv, ct, osl, rfl, lk, hcd⟩ := F.ex
  refine ⟨fun s us ws _ hl => ?_, g2_rel⟩
  match us, ws, hl with
  | [], [w, u], _ => exact .of_eq (h kV doc pm an cdv ct w u)
end
section
variable {X : Cx}
/-- repr(x), x a list or tuple of data, or a bool -/
def rReprV (K : PySem.W.Frag) : List V → Hp → VK → Prop := fun xs H Q => rRepr K xs H Q ∨ ∃ b : Bool, xs = [.bl b] ∧ Q (.str (if b then "True" else "False")) H
theorem cr_reprV (hG : X.A.guards = some []) (hu : X.A.units + 64 < cLine) : CallR X (.builtin "repr") (rReprV X.K) := by
  intro pins s σ H xs us Q I r h
  rcases h with h | ⟨b, rfl, q⟩
  · exact cr_repr hG hu pins s σ H xs us Q I r h
  · obtain ⟨u, rfl, ru⟩ := vals1 r
    cases ru
    exact PySem.P.repr_of_bool ⟨.str (if b then "True" else "False"), H, I.tok _, ⟨_, rfl⟩, q⟩
end
/-- an if, what stands behind it by a property P of the slots and the heap -/
theorem branch2 {c : TT} {t u : TS} {D : Ends} {σ : L2.St} {H : Hp} (P : L2.St → Hp → Prop) (key : ∀ σ' H', P σ' H' → D.nx σ' H') (h : ∀ nx : L2.St → Hp → Prop, (∀ σ' H', P σ' H' → nx σ' H') → tIfS c t u { D with nx := nx } σ H) : tIfS c t u D σ H := h D.nx key
theorem branch3 {c : TT} {t u r : TS} {D : Ends} {σ : L2.St} {H : Hp} (P : L2.St → Hp → Prop) (key : ∀ σ' H', P σ' H' → r D σ' H') (h : ∀ nx : L2.St → Hp → Prop, (∀ σ' H', P σ' H' → nx σ' H') → tIfS c t u { D with nx := nx } σ H) : tSeq (tIfS c t u) r D σ H := h (r D) key
/-- a def with its promise -/
structure Dfn (P : Program) (w : World) (K : PySem.W.Frag) (mg : Str → Option Value) (base : Heap) (x : Str) (st : Stmt) (ps : List Str) (sp : Sp) (k : Nat) (f : Addr) (fd : FuncData) : Prop where
  F : Fun K x x st f fd
  G : FnOk P w K mg base CX0 k f fd ps sp
  b : Binds K fd ps []
  g : mg x = some (.ref f)
theorem paired_perm {α β : Type} {R : α → β → Prop} {as cs : List α} (h : cs.Perm as) : ∀ {bs : List β}, Paired R as bs → ∃ ds, Paired R cs ds ∧ ds.Perm bs := by
  induction h with
  | nil => intro bs h; exact ⟨bs, h, .refl _⟩
  | cons x _ ih =>
    intro bs h
    cases h with
    | cons r t =>
      obtain ⟨ds, h1, h2⟩ := ih t
      exact ⟨_ :: ds, .cons r h1, h2.cons _⟩
  | swap x y l =>
    intro bs h
    cases h with
    | cons r t =>
      cases t with
      | cons r2 t => exact ⟨_, .cons r2 (.cons r t), List.Perm.swap _ _ _⟩
  | trans _ _ ih1 ih2 =>
    intro bs h
    obtain ⟨ds, h1, h2⟩ := ih2 h
    obtain ⟨es, h3, h4⟩ := ih1 h1
    exact ⟨es, h3, h4.trans h2⟩
theorem rp_ints {K : PySem.W.Frag} {H : Hp} {t : Addr} {ns : List Int} {Q : VK} (e : H t = some (.tup (ns.map V.int))) (h0 : ∀ r ∈ ns, 0 ≤ r ∧ r < 64) (hl : ns.length ≤ 8) (q : Q (.str (encInts ns).shown) H) : rReprV K [.ref t] H Q := by
  refine .inl ⟨t, encInts ns, rfl, IntsT.dp ⟨t, rfl, e⟩, lay_encInts _, show_ints h0, Nat.le_trans (depth_encInts _) (by decide), ?_, q⟩
  have := shown_ints h0 hl
  rw [sizeLine_eq]
  omega
theorem rp_row {K : PySem.W.Frag} {H : Hp} {v : V} {row : Row} {Q : VK} (h : RowT H v row) (g : ∀ p ∈ row, Good 8 p) (hl : row.length ≤ 8) (q : Q (.str (encRow row).shown) H) : rReprV K [v] H Q := by
  have hd := h.dp (K := K)
  obtain ⟨a, vs, rfl, _⟩ := h
  exact .inl ⟨a, encRow row, rfl, hd, lay_encRow row, show_row g (Nat.le_refl _), Nat.le_trans (depth_encRow row) (by decide), shown_row g (Nat.le_refl _) hl, q⟩
theorem rp_bl {K : PySem.W.Frag} {H : Hp} {b : Bool} {Q : VK} (q : Q (.str (if b then "True" else "False")) H) : rReprV K [.bl b] H Q := .inr ⟨b, rfl, q⟩
/-- equal standings -/
theorem st_eq {K : PySem.W.Frag} {H : Hp} {x y : V} {b : Int} {bl bl' : List (List Int)} {Q : VK} (hx : StandT H x b bl) (hy : StandT H y b bl') (e : bl = bl') (q : Q (.bl false) H) : rNeD K x y H Q := by
  refine ⟨_, _, hx.dp, hy.dp, shaped_stand _ _, shaped_stand _ _, ?_⟩
  rw [eqv_encStand, decide_eq_true e]
  exact q
abbrev nLaw : List Str := ["_law_script", "_law_deal", "_law_turn", "_law_standing_here", "_law_m", "_law_row_here", "_law_turns_here", "_law_told", "_law_due", "_law_other", "_law_again", "_law_at", "_law_known", "_law_mixed_here", "_law_wide", "_law_pour_here"]
theorem scLaw : FnScope nLaw ["_law_script"] (defScope dLaw) := ⟨rfl, rfl, rfl, by decide +kernel, rfl, by decide +kernel, by decide +kernel⟩
end K66
namespace K66
open PySem PySem.Spec PyProof.Rows L2
abbrev rLenS (w : World) : List V → Hp → VK → Prop := fun xs H Q => ∃ (a : Addr) (S : Int → Bool) (n : Nat), xs = [V.ref a] ∧ H a = some (SetO w a S n) ∧ n < 64 ∧ Q (.int (n : Nat)) H
section
variable {P : Program} {w : World} {K : PySem.W.Frag} {mg : Str → Option Value} {base : Heap}
/-- all the defs that the law reads -/
structure Defs (P : Program) (w : World) (K : PySem.W.Frag) (mg : Str → Option Value) (base : Heap) : Prop where
  draw : ∃ f fd, Dfn P w K mg base "_law_draw" dDraw ["_law_script", "_law_salt"] (spDraw K) 1 f fd
  any : ∃ f fd, Dfn P w K mg base "_law_any" dAny ["_law_deal", "_law_bound"] spAny 1 f fd
  mixed : ∃ f fd, Dfn P w K mg base "_law_mixed" dMixed ["_law_deal", "_law_some"] spMixed 2 f fd
  standing : ∃ f fd, Dfn P w K mg base "_law_standing" dStanding ["_law_deal", "_law_most", "_law_size"] spStanding 4 f fd
  row : ∃ f fd, Dfn P w K mg base "_law_row" dRow ["_law_deal", "_law_standing_here", "_law_m", "_law_many"] spRow 5 f fd
  turns : ∃ f fd, Dfn P w K mg base "_law_turns" dTurns ["_law_row_here"] spTurns 2 f fd
  apart : ∃ f fd, Dfn P w K mg base "_law_apart" dLApart ["_law_one", "_law_other"] spApart 1 f fd
  all : ∃ f fd, Dfn P w K mg base "_law_all_exchanges" dAll ["_law_row_here"] (spAll P w) 2 f fd
  behind : ∃ f fd, Dfn P w K mg base "_law_behind" dBehind ["_law_standing_here", "_law_row_here"] spBehind 2 f fd
  isrow : ∃ f fd, Dfn P w K mg base "_law_is_row" dIsRow ["_law_standing_here", "_law_row_here"] spIsRow 2 f fd
  lput : ∃ f fd, Dfn P w K mg base "_law_put" dLPut ["_law_row_here", "_law_m"] spPut 1 f fd
  rounds : ∃ f fd, Dfn P w K mg base "rounds_of" dRounds ["row"] spRounds 2 f fd ∧ KBinds K fd ["row"] ["row"] g1 g1
  settled : ∃ f fd, Dfn P w K mg base "settled" dSettled ["row"] spSettled 3 f fd ∧ KBinds K fd ["row"] ["row"] g1 g1
  exch : ∃ f fd, Dfn P w K mg base "are_exchanges" dExch ["one", "other"] spExch 4 f fd ∧ KBinds K fd ["one", "other"] ["other", "one"] g2 g2
  put : ∃ f fd, Dfn P w K mg base "put_together" dPut ["row", "m"] spPut 2 f fd ∧ KBinds K fd ["row", "m"] ["m", "row"] g2 g2
  n_list : mg "list" = none
  n_len : mg "len" = none
  n_max : mg "max" = none
  n_range : mg "range" = none
  n_repr : mg "repr" = none
  n_set : mg "set" = none
  n_sorted : mg "sorted" = none
  n_tuple : mg "tuple" = none
  n_zip : mg "zip" = none
def spLaw (K : PySem.W.Frag) : Sp := fun vs H Q _ => ∃ (p : Addr) (ks : List Int), vs = [.ref p] ∧ SqL K H p (ks.map V.int) ∧ ∀ H', Q (.bl true) H'
theorem law_body {f : Addr} (D : Defs P w K mg base) (cdv : Value) (s : Shared) (H : Hp) (vs : List V) (Q : VK) (E : XK) (hr : Room 5 (callerA.deeper (envOfC "law" (defScope dLaw) s.heap.objs.size f cdv))) (h : spLaw K vs H Q E) :
    ∃ t, PSs (cxOf CX0 P w K mg base nLaw "law" (defScope dLaw) f cdv callerA [] s H E).nox (defBody dLaw) t ∧ t { nx := fun _ H' => Q .non H', rt := Q } (start nLaw vs) H := by
  obtain ⟨p, ks, rfl, hp, q⟩ := h
  obtain ⟨⟨f1, d1, DR⟩, ⟨f2, d2, AN⟩, ⟨f3, d3, MX⟩, ⟨f4, d4, ST⟩, ⟨f5, d5, RW⟩, ⟨f6, d6, TU⟩, ⟨f7, d7, AP⟩, ⟨f8, d8, AL⟩, ⟨f9, d9, BE⟩, ⟨f10, d10, IR⟩, ⟨f11, d11, LP⟩, ⟨f12, d12, RO, kRO⟩, ⟨f13, d13, SE, kSE⟩, ⟨f14, d14, EX, kEX⟩, ⟨f15, d15, PU, kPU⟩, mli, ml, mmx, mr, mre, mse, mso, mt, mz⟩ := D
  have h1 := hr.mono (show 1 ≤ 5 by decide)
  have h2 := hr.mono (show 2 ≤ 5 by decide)
  have h3 := hr.mono (show 3 ≤ 5 by decide)
  have h4 := hr.mono (show 4 ≤ 5 by decide)
  refine ⟨_, (pss_cons (ps_set (i := 1) scLaw.nd rfl (.inl rfl) (pe_call DR.G h1 (by rfl) DR.g DR.F.kp DR.b .nil pass0 (pa_cons (pv 0) (pa_cons pe_int pa_nil))))
      (pss_cons (ps_for PassesOwn.never rfl (pi_range1 (by rfl) mr (pa_cons pe_int pa_nil)) (pg_name (i := 2) scLaw.nd rfl (.inl rfl))
      (pss_cons (ps_par (i := 3) (j := 4) rfl scLaw.nd rfl rfl (by decide) rfl rfl (pa_cons (pe_call ST.G h4 (by rfl) ST.g ST.F.kp ST.b .nil pass0 (pa_cons (pv 1) (pa_cons pe_int (pa_cons pe_int pa_nil)))) (pa_cons (pe_op op_add pe_int (pe_call AN.G h1 (by rfl) AN.g AN.F.kp AN.b .nil pass0 (pa_cons (pv 1) (pa_cons pe_int pa_nil)))) pa_nil)) (by rfl))
      (pss_cons (ps_if (pt_cmpR op_lt (pe_callB call_len_seq (by rfl) ml boot_len' (pa_cons (pe_ix ix_tup (pv 3) pe_int (fun _ _ => rfl)) pa_nil)) pe_int (nomark _)) (pss_one (ps_set (i := 3) scLaw.nd rfl (.inl rfl) (pe_tup (pa_cons (pe_ix ix_tup (pv 3) pe_int (fun _ _ => rfl)) (pa_cons (pe_op op_catA (pe_ix ix_tup (pv 3) pe_int (fun _ _ => rfl)) (pe_tup (pa_cons (pe_tup pa_nil) (pa_cons (pe_tup pa_nil) pa_nil)))) pa_nil))))) pss_nil)
      (pss_cons (ps_set (i := 5) scLaw.nd rfl (.inl rfl) (pe_call RW.G hr (by rfl) RW.g RW.F.kp RW.b .nil pass0 (pa_cons (pv 1) (pa_cons (pv 3) (pa_cons (pv 4) (pa_cons (pe_call AN.G h1 (by rfl) AN.g AN.F.kp AN.b .nil pass0 (pa_cons (pv 1) (pa_cons pe_int pa_nil))) pa_nil))))))
      (pss_cons (ps_set (i := 6) scLaw.nd rfl (.inl rfl) (pe_call TU.G h2 (by rfl) TU.g TU.F.kp TU.b .nil pass0 (pa_cons (pv 5) pa_nil)))
      (pss_cons (ps_if (PW.pt (pw_or (pt_cmpR op_ne (pe_callB (cr_reprV rfl hr.units) (by rfl) mre boot_repr' (pa_cons (pe_call RO.G h2 (by rfl) RO.g RO.F.kp RO.b .nil pass0 (pa_cons (pv 5) pa_nil)) pa_nil)) (pe_callB (cr_reprV rfl hr.units) (by rfl) mre boot_repr' (pa_cons (pe_callTy call_tuple_of (by rfl) mt boot_tuple' (pa_cons (pv 6) pa_nil)) pa_nil)) (nomark _)) (pw_or1 (pt_cmpR op_ne (pe_callB (cr_reprV rfl hr.units) (by rfl) mre boot_repr' (pa_cons (pe_onlyK RO.G h2 (by rfl) RO.g RO.F.kp kRO pass0 (pk_cons (pv 5) pk_nil)) pa_nil)) (pe_callB (cr_reprV rfl hr.units) (by rfl) mre boot_repr' (pa_cons (pe_callTy call_tuple_of (by rfl) mt boot_tuple' (pa_cons (pv 6) pa_nil)) pa_nil)) (nomark _))))) (pss_one (ps_ret pe_bl)) pss_nil)
      (pss_cons (ps_set (i := 8) scLaw.nd rfl (.inl rfl) (pe_callTy call_tuple_of (by rfl) mt boot_tuple' (pa_cons (pe_lc (own := [("_law_told", 7), ("_law_pour_here", 15)]) (g := gTup K 2 (gCons (gName 7) (gCons (gName 15) gNil))) (tt := tYes) rfl scLaw.nd
            (pi_list (pe_sortZip rfl hr.units (by rfl) mz (by rfl) mso (pa_cons (pv 6) (pa_cons (pv 5) pa_nil))))
            (blkOk_by (N := nLaw) (sc := defScope dLaw) (by decide +kernel))
            (fun _ _ _ _ _ => pg_tup rfl (pgs_cons (pg_name (i := 7) scLaw.nd rfl (.inl rfl)) (pgs_cons (pg_name (i := 15) scLaw.nd rfl (.inl rfl)) pgs_nil)))
            (fun _ _ _ _ _ => pts_nil) (fun _ _ _ _ _ => pv 15)) pa_nil)))
      (pss_cons (ps_if (PW.pt (pw_or (pt_cmpR op_ne (pe_callB (cr_reprV rfl hr.units) (by rfl) mre boot_repr' (pa_cons (pe_call SE.G h3 (by rfl) SE.g SE.F.kp SE.b .nil pass0 (pa_cons (pv 5) pa_nil)) pa_nil)) (pe_callB (cr_reprV rfl hr.units) (by rfl) mre boot_repr' (pa_cons (pv 8) pa_nil)) (nomark _)) (pw_or1 (pt_cmpR op_ne (pe_callB (cr_reprV rfl hr.units) (by rfl) mre boot_repr' (pa_cons (pe_onlyK SE.G h3 (by rfl) SE.g SE.F.kp kSE pass0 (pk_cons (pv 5) pk_nil)) pa_nil)) (pe_callB (cr_reprV rfl hr.units) (by rfl) mre boot_repr' (pa_cons (pv 8) pa_nil)) (nomark _))))) (pss_one (ps_ret pe_bl)) pss_nil)
      (pss_cons (ps_if (pt_cmpR (op_neD hr.units) (pe_call BE.G h2 (by rfl) BE.g BE.F.kp BE.b .nil pass0 (pa_cons (pv 3) (pa_cons (pv 8) pa_nil))) (pe_call BE.G h2 (by rfl) BE.g BE.F.kp BE.b .nil pass0 (pa_cons (pv 3) (pa_cons (pv 5) pa_nil))) (nomark _)) (pss_one (ps_ret pe_bl)) pss_nil)
      (pss_cons (ps_set (i := 9) scLaw.nd rfl (.inl rfl) (pv 5))
      (pss_cons (ps_for PassesOwn.never rfl (pi_range1 (by rfl) mr (pa_cons pe_int pa_nil)) (pg_name (i := 10) scLaw.nd rfl (.inl rfl))
      (pss_cons (ps_set (i := 11) scLaw.nd rfl (.inl rfl) (pe_call AN.G h1 (by rfl) AN.g AN.F.kp AN.b .nil pass0 (pa_cons (pv 1) (pa_cons (pe_callB (call_max2 rfl) (by rfl) mmx boot_max' (pa_cons (pe_op op_sub (pe_callB call_len_seq (by rfl) ml boot_len' (pa_cons (pv 5) pa_nil)) pe_int) (pa_cons pe_int pa_nil))) pa_nil))))
      (pss_one (ps_if (PW.pt (pw_and (pt_cmpR op_lt (pe_op op_add (pv 11) pe_int) (pe_callB call_len_seq (by rfl) ml boot_len' (pa_cons (pv 9) pa_nil)) (nomark _)) (pw_and1 (pt_val (pe_call AP.G h1 (by rfl) AP.g AP.F.kp AP.b .nil pass0 (pa_cons (pe_ix ix_tup (pv 9) (pv 11) (fun _ _ => rfl)) (pa_cons (pe_ix ix_tup (pv 9) (pe_op op_add (pv 11) pe_int) (fun _ _ => rfl)) pa_nil))))))) (pss_one (ps_set (i := 9) scLaw.nd rfl (.inl rfl) (pe_op op_catA (pe_op op_catA (pe_slice sl_tupA (pv 9) po_none (po_some (pv 11))) (pe_tup (pa_cons (pe_ix ix_tup (pv 9) (pe_op op_add (pv 11) pe_int) (fun _ _ => rfl)) (pa_cons (pe_ix ix_tup (pv 9) (pv 11) (fun _ _ => rfl)) pa_nil)))) (pe_slice sl_tupA (pv 9) (po_some (pe_op op_add (pv 11) pe_int)) po_none)))) pss_nil))))
      (pss_cons (ps_if (PW.pt (pw_or (pt_cmpR op_notBl (pe_call EX.G h4 (by rfl) EX.g EX.F.kp EX.b .nil pass0 (pa_cons (pv 5) (pa_cons (pv 9) pa_nil))) pe_bl (nomark _)) (pw_or1 (pt_cmpR op_notBl (pe_onlyK EX.G h4 (by rfl) EX.g EX.F.kp kEX pass0 (pk_cons (pv 5) (pk_cons (pv 9) pk_nil))) pe_bl (nomark _))))) (pss_one (ps_ret pe_bl)) pss_nil)
      (pss_cons (ps_if (pt_cmpR op_lt (pe_callB call_len_seq (by rfl) ml boot_len' (pa_cons (pv 5) pa_nil)) pe_int (nomark _)) (pss_cons (ps_par (i := 12) (j := 13) rfl scLaw.nd rfl rfl (by decide) rfl rfl (pa_cons (pe_call AL.G h2 (by rfl) AL.g AL.F.kp AL.b .nil pass0 (pa_cons (pv 5) pa_nil)) (pa_cons (pe_callTy call_tuple_of (by rfl) mt boot_tuple' (pa_cons (pe_call MX.G h2 (by rfl) MX.g MX.F.kp MX.b .nil pass0 (pa_cons (pv 1) (pa_cons (pv 5) pa_nil))) pa_nil)) pa_nil)) (by rfl))
      (pss_cons (ps_if (pt_cmpR (op_notInKn hr.units) (pe_call SE.G h3 (by rfl) SE.g SE.F.kp SE.b .nil pass0 (pa_cons (pv 5) pa_nil)) (pv 12) rfl) (pss_one (ps_ret pe_bl)) pss_nil)
      (pss_one (ps_if (PW.pt (pw_and (pt_val (pe_call IR.G h2 (by rfl) IR.g IR.F.kp IR.b .nil pass0 (pa_cons (pv 3) (pa_cons (pv 13) pa_nil)))) (pw_and1 (pt_cmpR op_ne (pe_callB (cr_reprV rfl hr.units) (by rfl) mre boot_repr' (pa_cons (pe_call EX.G h4 (by rfl) EX.g EX.F.kp EX.b .nil pass0 (pa_cons (pv 5) (pa_cons (pv 13) pa_nil))) pa_nil)) (pe_callB (cr_reprV rfl hr.units) (by rfl) mre boot_repr' (pa_cons (pe_cmpR (op_inKn hr.units) (pv 13) (pv 12) rfl) pa_nil)) (nomark _))))) (pss_one (ps_ret pe_bl)) pss_nil)))) pss_nil)
      (pss_cons (ps_set (i := 14) scLaw.nd rfl (.inr rfl) (pe_op op_add (pv 4) (pe_call AN.G h1 (by rfl) AN.g AN.F.kp AN.b .nil pass0 (pa_cons (pv 1) (pa_cons pe_int pa_nil)))))
      (pss_cons (ps_set (i := 7) scLaw.nd rfl (.inr rfl) (pe_call PU.G h2 (by rfl) PU.g PU.F.kp PU.b .nil pass0 (pa_cons (pv 5) (pa_cons (pv 14) pa_nil))))
      (pss_cons (ps_if (PW.pt (pw_or (pt_cmpR op_ne (pe_callB (cr_reprV rfl hr.units) (by rfl) mre boot_repr' (pa_cons (pv 7) pa_nil)) (pe_callB (cr_reprV rfl hr.units) (by rfl) mre boot_repr' (pa_cons (pe_call LP.G h1 (by rfl) LP.g LP.F.kp LP.b .nil pass0 (pa_cons (pv 5) (pa_cons (pv 14) pa_nil))) pa_nil)) (nomark _)) (pw_or1 (pt_cmpR op_ne (pe_callB (cr_reprV rfl hr.units) (by rfl) mre boot_repr' (pa_cons (pe_onlyK PU.G h2 (by rfl) PU.g PU.F.kp kPU pass0 (pk_cons (pv 14) (pk_cons (pv 5) pk_nil))) pa_nil)) (pe_callB (cr_reprV rfl hr.units) (by rfl) mre boot_repr' (pa_cons (pv 7) pa_nil)) (nomark _))))) (pss_one (ps_ret pe_bl)) pss_nil)
      (pss_cons (ps_if (pt_cmpR (op_neD hr.units) (pe_call BE.G h2 (by rfl) BE.g BE.F.kp BE.b .nil pass0 (pa_cons (pv 3) (pa_cons (pv 7) pa_nil))) (pe_call BE.G h2 (by rfl) BE.g BE.F.kp BE.b .nil pass0 (pa_cons (pv 3) (pa_cons (pv 5) pa_nil))) (nomark _)) (pss_one (ps_ret pe_bl)) pss_nil)
      (pss_one (ps_if (pt_cmpR (op_neD hr.units) (pe_lc (own := [("_law_at", 11)]) (g := gName 11) rfl scLaw.nd (pi_range2 (by rfl) mr (pa_cons pe_int (pa_cons (pe_callB call_len_seq (by rfl) ml boot_len' (pa_cons (pv 7) pa_nil)) pa_nil)))
            (blkOk_by (N := nLaw) (sc := defScope dLaw) (by decide +kernel)) (fun _ _ _ _ _ => pg_name (i := 11) scLaw.nd rfl (Or.inl rfl))
            (fun _ _ _ _ _ => pts_one (pt_cmpR (r := rI0 fun i j => .bl (decide (i ≤ j))) op_le (pe_callB (r := rLenS w) cr_lenSet (by rfl) ml boot_len' (pa_cons (pe_callTy (r := rSetI K w) (cr_setI rfl) (by rfl) mse boot_set' (pa_cons
              (pe_op (r := rCatA K) op_catA (pe_ix (r := rIxT K) ix_tup (pe_ix (r := rIxT K) ix_tup (pv 7) (pe_op (r := rI0 fun i j => .int (i - j)) op_sub (pv 11) pe_int) (fun _ _ => rfl)) pe_int (fun _ _ => rfl)) (pe_ix (r := rIxT K) ix_tup (pe_ix (r := rIxT K) ix_tup (pv 7) (pv 11) (fun _ _ => rfl)) pe_int (fun _ _ => rfl))) pa_nil)) pa_nil)) (pv 14) (nomark _)))
            (fun _ _ _ _ _ => pv 11)) (pe_lst pa_nil) (nomark _)) (pss_one (ps_ret pe_bl)) pss_nil)))))))))))))))))))
      (pss_one (ps_ret pe_bl)))), ?_⟩
  refine ⟨.ref p, rfl, p, ks, rfl, hp, fun H1 a a0 sm1 hd1 => ?_⟩
  refine ⟨(3 : Int), rfl, by decide, by decide, ?_⟩
  refine for_range (lo := 0) (n := 3) (fun i σ H' => ∃ w2 w3 w4 w5 w6 w7 w8 w9 w10 w11 w12 w13 w14 w15 : Option V, σ = [some (.ref p), some (.ref a), w2, w3, w4, w5, w6, w7, w8, w9, w10, w11, w12, w13, w14, w15] ∧ Dl H' a a0)
    ⟨none, none, none, none, none, none, none, none, none, none, none, none, none, none, rfl, hd1⟩ (fun i σ H' _ hP => ?_) (fun σ H' _ => q H')
  clear hp hd1 sm1 H1
  obtain ⟨w2, w3, w4, w5, w6, w7, w8, w9, w10, w11, w12, w13, w14, w15, rfl, hd⟩ := hP
  -- the standing, m
  refine ⟨.ref a, rfl, a, a0, rfl, hd, fun H2 v b bl dr2 hst hb1 hb3 hl1 hl6 hok => ?_⟩
  refine ⟨.ref a, rfl, a, a0, 2, rfl, dr2.dl, by decide, by decide, fun H3 r dr3 hr0 hr2 => ⟨_, _, rfl, rfl, _, _, rfl, ?_⟩⟩
  have hst3 := hst.te dr3.te
  have hd3 := dr3.dl
  clear hst dr2 dr3 hd
  -- at least two blocks
  dsimp only
  refine branch3 (P := fun σ' H' => ∃ (v' : V) (bl' : List (List Int)), σ' = [some (.ref p), some (.ref a), some (.int (0 + (i : Nat))), some v', some (.int (2 + r)), w5, w6, w7, w8, w9, w10, w11, w12, w13, w14, w15] ∧ Dl H' a a0 ∧ StandT H' v' b bl' ∧ 2 ≤ bl'.length ∧ bl'.length ≤ 8 ∧ ∀ part ∈ bl', Okp b part) (fun σ' H' hP => ?_) fun nx hk => ?_
  rotate_left
  · have hst4 := hst3
    obtain ⟨c, x, rfl, ec, ⟨d, vs, rfl, ed, hvs⟩⟩ := hst3
    have hvl := Paired.length hvs
    refine ⟨.ref c, rfl, c, _, 1, .ref d, rfl, rfl, SqT.of ec, atI_nat (j := 1) rfl, d, vs, rfl, .inr (SqT.of ed), _, 2, rfl, rfl, _, rfl, ?_⟩
    by_cases hc : ((vs.length : Nat) : Int) < 2
    · rw [decide_eq_true hc]
      refine iteT ?_
      refine ⟨.ref c, rfl, c, _, 0, .int b, rfl, rfl, SqT.of ec, atI_nat (j := 0) rfl, .ref c, rfl, c, _, 1, .ref d, rfl, rfl, SqT.of ec, atI_nat (j := 1) rfl, Nat.zero_le _, fun e1 n1 => ⟨Nat.zero_le _, fun e2 n2 => ⟨by show 2 ≤ sizeLine; decide, fun e3 n3 => ?_⟩⟩⟩
      have s1 := same_upd n1 (o := .tup [])
      have s2 := same_upd n2 (o := .tup [])
      have s3 := same_upd n3 (o := .tup [.ref e1, .ref e2])
      have sA := (s1.trans s2).trans s3
      refine ⟨d, e3, vs, _, rfl, rfl, SqT.of (sA _ _ ed), SqT.of upd_same, le_line (m := 100) (by show vs.length + 2 ≤ 100; omega) (by decide), fun z => ?_, fun _ z => (by cases z), fun _ _ e4 n4 => ?_⟩
      · rw [z] at hvl
        have : bl.length = 0 := hvl.symm
        omega
      · have s4 := same_upd n4 (o := .tup (vs ++ [.ref e1, .ref e2]))
        refine ⟨by show 2 ≤ sizeLine; decide, fun e5 n5 => ?_⟩
        have s5 := same_upd n5 (o := .tup [.int b, .ref e4])
        have sB := sA.trans (s4.trans s5)
        have g1 := s5 _ _ (s4 _ _ (s3 _ _ (s2 _ _ (upd_same (H := H3) (a := e1) (o := .tup [])))))
        have g2 := s5 _ _ (s4 _ _ (s3 _ _ (upd_same (H := upd H3 e1 (.tup [])) (a := e2) (o := .tup []))))
        refine hk _ _ ⟨_, bl ++ [[], []], rfl, hd3.same sB, ⟨e5, .ref e4, rfl, upd_same, ⟨e4, _, rfl, s5 _ _ upd_same, paired_append (parts_te (TE2.of sB) hvs) (.cons ⟨e1, rfl, g1⟩ (.cons ⟨e2, rfl, g2⟩ .nil))⟩⟩, ?_, ?_, fun part hp => ?_⟩
        · rw [List.length_append]
          show 2 ≤ bl.length + 2
          omega
        · rw [List.length_append]
          show bl.length + 2 ≤ 8
          omega
        · rcases List.mem_append.mp hp with h | h
          · exact hok part h
          · have e : part = [] := by
              rcases List.mem_cons.mp h with h | h
              · exact h
              · exact List.mem_singleton.mp h
            rw [e]
            exact ⟨Nat.zero_le _, fun n hn => absurd hn List.not_mem_nil⟩
    · rw [decide_eq_false hc]
      exact iteF (hk _ _ ⟨_, bl, rfl, hd3, hst4, by omega, by omega, hok⟩)
  clear hst3 hd3 hok hl1 hl6
  obtain ⟨v', bl, rfl, hd, hst, hl2, hl8, hok⟩ := hP
  -- the row
  refine ⟨.ref a, rfl, v', rfl, .int (2 + r), rfl, .ref a, rfl, a, a0, 9, rfl, hd, by decide, by decide, fun H4 r2 dr4 h20 h29 => ?_⟩
  obtain ⟨many, rfl⟩ : ∃ n : Nat, r2 = (n : Int) := ⟨r2.toNat, by omega⟩
  refine ⟨a, a0, v', 2 + r, b, many, bl, rfl, dr4.dl, hst.te dr4.te, hb3, hl2, hl8, hok, by omega, by omega, by omega, fun H5 vrow row dr5 hrow hgood hrl => ?_⟩
  have hst5 := hst.te (dr4.te.trans dr5.te)
  have hd5 := dr5.dl
  have hg8 : ∀ p ∈ row, Good 8 p := fun p hp => (hgood p hp).mono hl8
  clear hst dr4 dr5 hd
  refine ⟨vrow, rfl, vrow, row, rfl, hrow, hg8, by omega, fun B l smB nl el => ?_⟩
  have hl5 := hd5.ne nl
  have hdB := hd5.same smB
  have hstB := hst5.te (TE2.of smB)
  have hrowB := hrow.te (TE2.of smB)
  clear hst5 hrow hd5 smB nl
  have drB := Dr.refl hdB
  have hro : ∀ y ∈ rounds row, 0 ≤ y ∧ y < 64 := fun y hy => by
    have := rounds_lt row y hy
    omega
  have hrol : (rounds row).length ≤ 8 := by rw [rounds_length]; omega
  -- the rounds
  refine ⟨vrow, rfl, vrow, row, rfl, hrowB, hg8, by omega, fun B1 t1 sm1 nt1 et1 => rp_ints et1 hro hrol ?_⟩
  refine ⟨.ref l, rfl, l, _, rfl, .inl ⟨SqL.of (sm1 _ _ el), fun t2 nt2 => rp_ints upd_same hro hrol ⟨rfl, _, rfl, ?_⟩⟩⟩
  rw [decide_eq_true rfl]
  refine iteF ?_
  have sm2 := sm1.trans (same_upd nt2 (o := .tup ((rounds row).map V.int)))
  generalize upd B1 t2 (.tup ((rounds row).map V.int)) = B2 at sm2
  clear nt2 et1 nt1 sm1 B1
  refine ⟨vrow, rfl, vrow, row, rfl, hrowB.te (TE2.of sm2), hg8, by omega, fun B3 t3 sm3 nt3 et3 => rp_ints et3 hro hrol ?_⟩
  refine ⟨.ref l, rfl, l, _, rfl, .inl ⟨SqL.of (sm3 _ _ (sm2 _ _ el)), fun t4 nt4 => rp_ints upd_same hro hrol ⟨rfl, _, rfl, ?_⟩⟩⟩
  rw [decide_eq_true rfl]
  refine iteF ?_
  have sm4 := (sm2.trans sm3).trans (same_upd nt4 (o := .tup ((rounds row).map V.int)))
  generalize upd B3 t4 (.tup ((rounds row).map V.int)) = B4 at sm4
  clear nt4 et3 nt3 sm3 sm2 B3 B2
  -- settled
  have hrow4 := hrowB.te (TE2.of sm4)
  have hrow4' := hrow4
  obtain ⟨ra, ps, rfl, era, hps⟩ := hrow4
  refine ⟨.ref l, rfl, .ref ra, rfl, l, ra, rounds row, ps, row, rfl, .inl (SqL.of (sm4 _ _ el)), .inr (SqT.of era), hps, rounds_length row, fun B5 L Ts sm5 nL eL hTs => ?_⟩
  have hsl : (((rounds row).zip row).mergeSort leRP).length ≤ 1000 := by
    rw [List.length_mergeSort, List.length_zip, rounds_length, Nat.min_self]
    omega
  refine ⟨L, rfl, ⟨_, SqL.of eL⟩, fun D5 hD5 => ?_⟩
  refine rp_list eL (L2.Paired.mapP hTs fun T b z => let ⟨y, _, e1, e2⟩ := z; ⟨y, e1, e2⟩) hsl hD5 (fun _ _ => rfl) (fun _ _ => rfl) fun B6 ys' sm6 eD hy => ?_
  refine ⟨D5, _, rfl, .inl ⟨SqL.of eD, fun l7 nl7 => ?_⟩⟩
  have smx := (sm4.trans sm5).trans (sm6.trans (same_upd nl7 (o := .tup ys')))
  have hdue : RowT (upd B6 l7 (.tup ys')) (.ref l7) (stl row) := ⟨l7, ys', rfl, upd_same, pours_te (te_new nl7) hy⟩
  generalize upd B6 l7 (.tup ys') = B7 at smx hdue
  clear nl7 hy eD sm6 B6 hD5 D5 hTs eL nL sm5 L Ts B5 ys' hsl
  have hsp : row.Perm (stl row) := settled_perm leRP_good row
  have hgs : ∀ p ∈ stl row, Good bl.length p := fun p hp => hgood p (hsp.mem_iff.mpr hp)
  have hg8s : ∀ p ∈ stl row, Good 8 p := fun p hp => hg8 p (hsp.mem_iff.mpr hp)
  have hsll : (stl row).length = row.length := hsp.length_eq.symm
  have hE : Eqv row (stl row) := settled_reach leRP_good row
  refine ⟨.ref ra, rfl, .ref ra, row, rfl, hrowB.te (TE2.of smx), hg8, by omega, fun B8 v8 sm8 hv8 => rp_row hv8 hg8s (by omega) ?_⟩
  refine ⟨.ref l7, rfl, rp_row (hdue.te (TE2.of sm8)) hg8s (by omega) ⟨rfl, _, rfl, ?_⟩⟩
  rw [decide_eq_true rfl]
  refine iteF ?_
  refine ⟨.ref ra, rfl, .ref ra, row, rfl, hrowB.te (TE2.of (smx.trans sm8)), hg8, by omega, fun B9 v9 sm9 hv9 => rp_row hv9 hg8s (by omega) ?_⟩
  refine ⟨.ref l7, rfl, rp_row (hdue.te (TE2.of (sm8.trans sm9))) hg8s (by omega) ⟨rfl, _, rfl, ?_⟩⟩
  rw [decide_eq_true rfl]
  refine iteF ?_
  have smy := (smx.trans sm8).trans sm9
  have hdue9 := hdue.te (TE2.of (sm8.trans sm9))
  clear hv9 hv8 sm9 sm8 smx hdue B8 B7
  -- the standing behind
  refine ⟨v', rfl, .ref l7, rfl, v', .ref l7, b, bl, stl row, rfl, hstB.te (TE2.of smy), hdue9, hgs, fun B10 v10 sm10 hv10 => ?_⟩
  refine ⟨v', rfl, .ref ra, rfl, v', .ref ra, b, bl, row, rfl, hstB.te (TE2.of (smy.trans sm10)), hrowB.te (TE2.of (smy.trans sm10)), hgood, fun B11 v11 sm11 hv11 => ?_⟩
  refine st_eq (hv10.te (TE2.of sm11)) hv11 (behind_eqv hE hgood bl).symm ⟨_, rfl, iteF ?_⟩
  have smz := (smy.trans sm10).trans sm11
  clear hv11 hv10 hdue9 smy sm11 sm10 B10 B9
  have dr11 := drB.same smz
  clear smz sm4 hrow4' era hps hdB drB
  obtain ⟨ra2, psB, e2, eraB, hpsB⟩ := id hrowB
  cases e2
  have hpsl := Paired.length hpsB
  have eqG : ∀ {o : Row}, Eqv row o → (∀ p ∈ o, Good 8 p) ∧ o.length = row.length := fun {o} h => ⟨fun p hp => hg8 p (h.perm.mem_iff.mpr hp), h.perm.length_eq.symm⟩
  -- exchanges
  refine ⟨.ref ra, rfl, ?_⟩
  refine ⟨(12 : Int), rfl, by decide, by decide, ?_⟩
  refine for_range (lo := 0) (n := 12) (fun j σ H' => ∃ (vo : V) (w10 w11 : Option V) (other : Row), σ = [some (.ref p), some (.ref a), some (.int (0 + (i : Nat))), some v', some (.int (2 + r)), some (.ref ra), some (.ref l), w7, some (.ref l7), some vo, w10, w11, w12, w13, w14, w15] ∧ Dr a a0 B H' ∧ RowT H' vo other ∧ Eqv row other)
    ⟨.ref ra, w10, w11, row, rfl, dr11, hrowB.te dr11.te, .refl _⟩ (fun j σ H' _ hP => ?_) (fun σ H' hP => ?_)
  · obtain ⟨vo, w10', w11', other, rfl, dr, hvo, hEo⟩ := hP
    obtain ⟨hgo, hol⟩ := eqG hEo
    refine ⟨.ref a, rfl, .ref ra, rfl, ra, _, rfl, .inr (SqT.of (dr.te _ _ eraB)), _, 1, rfl, rfl, _, _, rfl, ?_⟩
    refine ⟨a, a0, _, rfl, dr.dl, ?_, ?_, fun H2 r3 dr2 h30 h3b => ?_⟩
    · split <;> omega
    · split <;> omega
    · obtain ⟨k, rfl⟩ : ∃ k : Nat, r3 = (k : Int) := ⟨r3.toNat, by omega⟩
      have hvo2 := hvo.te dr2.te
      have drk := dr.trans dr2
      have hvo3 := hvo2
      obtain ⟨oa, os, rfl, eoa, hos⟩ := hvo2
      have hosl := Paired.length hos
      refine ⟨.int (k : Int), rfl, _, 1, rfl, rfl, .ref oa, rfl, oa, _, rfl, .inr (SqT.of eoa), _, _, rfl, rfl, _, rfl, ?_⟩
      by_cases hc : (k : Int) + 1 < ((os.length : Nat) : Int)
      · rw [decide_eq_true hc]
        refine iteT ?_
        have ek : other[k]? = some other[k] := List.getElem?_eq_getElem (by omega)
        have ek1 : other[k + 1]? = some other[k + 1] := List.getElem?_eq_getElem (by omega)
        obtain ⟨y1, hy1, hp1⟩ := paired_get1 hos ek
        obtain ⟨y2, hy2, hp2⟩ := paired_get1 hos ek1
        refine ⟨.ref oa, rfl, .int (k : Int), rfl, oa, os, _, y1, rfl, rfl, SqT.of eoa, atI_nat hy1, .ref oa, rfl, .int (k : Int), rfl, _, 1, rfl, rfl, oa, os, _, y2, rfl, rfl, SqT.of eoa, atI_nat (j := k + 1) hy2, y1, y2, other[k], other[k + 1], rfl, hp1, hp2, hgo _ (List.getElem_mem (by omega)), fun H3 sm3 => ⟨_, rfl, ?_⟩⟩
        cases hap : K66.apart other[k] other[k + 1] with
        | false => exact iteF ⟨_, _, _, other, rfl, drk.same sm3, hvo3.te (TE2.of sm3), hEo⟩
        | true =>
          refine iteT ?_
          refine swap_read (K := K) (i := 9) (k := 11) (j := k) (vs := os) (x := y1) (y := y2) rfl rfl (sm3 _ _ eoa) hy1 hy2 (by omega) fun H4 p4 sm4 e4 => ?_
          have te4 := TE2.of (sm3.trans sm4)
          refine ⟨.ref p4, _, _, swapAt other k other[k] other[k + 1], rfl, (drk.same sm3).same sm4, ⟨p4, _, rfl, e4, paired_append (paired_take k (pours_te te4 hos)) (.cons (hp2.te te4) (.cons (hp1.te te4) (paired_drop (k + 2) (pours_te te4 hos))))⟩, hEo.trans (Eqv.one (swapAt_sw ek ek1 hap))⟩
      · rw [decide_eq_false hc]
        exact iteF (iteF ⟨_, _, _, other, rfl, drk, hvo3, hEo⟩)
  obtain ⟨vo, w10', w11', other, rfl, dr, hvo, hEo⟩ := hP
  obtain ⟨hgo, hol⟩ := eqG hEo
  have hso : stl row = stl other := settled_eqv leRP_good hEo
  refine ⟨.ref ra, rfl, vo, rfl, .ref ra, vo, row, other, rfl, hrowB.te dr.te, hvo, hg8, hgo, by omega, by omega, fun C1 sm1 => ⟨_, _, rfl, rfl, _, rfl, ?_⟩⟩
  rw [decide_eq_true hso]
  refine iteF ?_
  have dr1 := dr.same sm1
  have hvo1 := hvo.te (TE2.of sm1)
  refine ⟨.ref ra, rfl, vo, rfl, vo, .ref ra, other, row, rfl, hvo1, hrowB.te dr1.te, hgo, hg8, by omega, by omega, fun C2 sm2 => ⟨_, _, rfl, rfl, _, rfl, ?_⟩⟩
  rw [decide_eq_true hso.symm]
  refine iteF ?_
  have dr2 := dr1.same sm2
  clear dr1 hvo1 sm2 sm1 dr hvo hso hol hgo hEo dr11 C1
  -- short rows: all exchanges
  change Ends.nx _ _ _
  dsimp only
  refine branch3 (P := fun σ' H' => ∃ (w12' w13' : Option V), σ' = [some (.ref p), some (.ref a), some (.int (0 + (i : Nat))), some v', some (.int (2 + r)), some (.ref ra), some (.ref l), w7, some (.ref l7), some vo, w10', w11', w12', w13', w14, w15] ∧ Dr a a0 B H') (fun σ' H' hP => ?_) fun nx hk => ?_
  rotate_left
  · refine ⟨.ref ra, rfl, ra, _, rfl, .inr (SqT.of (dr2.te _ _ eraB)), _, 6, rfl, rfl, _, rfl, ?_⟩
    by_cases hc : ((psB.length : Nat) : Int) < 6
    · rw [decide_eq_true hc]
      refine iteT ?_
      refine ⟨.ref ra, rfl, .ref ra, row, rfl, hrowB.te dr2.te, hg8, by omega, fun C3 d xs sm3 kn hiff => ?_⟩
      have dr3 := dr2.same sm3
      refine ⟨.ref a, rfl, .ref ra, rfl, a, a0, ra, psB, rfl, dr3.dl, .inr (dr3.te _ _ eraB), fun x hx H' te => ?_, by omega, fun C4 l4 ys dr4 nl4 el4 hperm => ?_⟩
      · obtain ⟨j, hj⟩ := List.getElem?_of_mem hx
        obtain ⟨pp, _, hpp⟩ := paired_get2 hpsB hj
        exact ((hpp.te dr3.te).te te).okv
      · have dr34 := dr3.trans dr4
        refine ⟨l4, _, rfl, .inl ⟨SqL.of el4, fun t nt => ⟨_, _, rfl, ?_⟩⟩⟩
        have smt := same_upd nt (o := .tup ys)
        obtain ⟨mix, hmix, hmp⟩ := paired_perm hperm (pours_te (dr34.same smt).te hpsB)
        have dr5 := dr34.same smt
        have hmixT : RowT (upd C4 t (.tup ys)) (.ref t) mix := ⟨t, ys, rfl, upd_same, hmix⟩
        have hdk : d ≠ a ∧ d ≠ a0 := by
          obtain ⟨ns, bl0, h1, h2, h3, h4⟩ := dr3.dl
          refine ⟨fun z => ?_, fun z => ?_⟩
          · rw [z] at kn
            have := kn.at'
            rw [h2] at this
            cases this
          · rw [z] at kn
            have := kn.at'
            rw [h3] at this
            cases this
        have kn5 : Known P w (upd C4 t (.tup ys)) d xs := kn.te (dr4.te.trans (TE2.of smt)) (by rw [smt _ _ (dr4.stay _ _ kn.at' hdk.1 hdk.2), kn.at'])
        generalize upd C4 t (.tup ys) = C5 at dr5 hmixT kn5
        have hgm : ∀ p ∈ mix, Good 8 p := fun p hp => hg8 p (hmp.mem_iff.mp hp)
        have hgmb : ∀ p ∈ mix, Good bl.length p := fun p hp => hgood p (hmp.mem_iff.mp hp)
        have hml : mix.length = row.length := hmp.length_eq
        refine ⟨.ref ra, rfl, .ref ra, row, rfl, hrowB.te dr5.te, hg8, by omega, fun C6 v6 sm6 hv6 => ?_⟩
        refine ⟨.ref d, rfl, stl row, d, xs, hv6, rfl, kn5.te (TE2.of sm6) (by rw [sm6 _ _ kn5.at', kn5.at']), _, rfl, ?_⟩
        rw [if_pos rfl, decide_eq_true ((hiff (stl row)).mpr hE)]
        refine iteF ?_
        have dr6 := dr5.same sm6
        have kn6 := kn5.te (TE2.of sm6) (by rw [sm6 _ _ kn5.at', kn5.at'])
        have hmix6 := hmixT.te (TE2.of sm6)
        refine ⟨v', rfl, .ref t, rfl, v', .ref t, b, bl, mix, rfl, hstB.te dr6.te, hmix6, hl8, hgmb, fun part hp => Nat.le_trans (hok part hp).1 hb3, fun C7 kk sm7 => ⟨_, rfl, ?_⟩⟩
        have dr7 := dr6.same sm7
        cases kk with
        | false => exact iteF (iteF (hk _ _ ⟨_, _, rfl, dr7⟩))
        | true =>
          refine iteT ?_
          refine ⟨.ref ra, rfl, .ref t, rfl, .ref ra, .ref t, row, mix, rfl, hrowB.te dr7.te, hmix6.te (TE2.of sm7), hg8, hgm, by omega, by omega, fun C8 sm8 => rp_bl ?_⟩
          have kn8 := kn6.te (TE2.of (sm7.trans sm8)) (by rw [(sm7.trans sm8) _ _ kn6.at', kn6.at'])
          refine ⟨.ref t, rfl, .ref d, rfl, mix, d, xs, hmix6.te (TE2.of (sm7.trans sm8)), rfl, kn8, rp_bl ⟨rfl, _, rfl, ?_⟩⟩
          have heq : decide (stl row = stl mix) = decide (mix ∈ xs.map (·.1)) := decide_eq_decide.mpr (((hiff mix).trans (eqv_iff leRP_good)).symm)
          rw [if_neg Bool.false_ne_true, heq, decide_eq_true rfl]
          exact iteF (hk _ _ ⟨_, _, rfl, dr7.same sm8⟩)
    · rw [decide_eq_false hc]
      exact iteF (hk _ _ ⟨_, _, rfl, dr2⟩)
  clear dr2 C2
  obtain ⟨w12', w13', rfl, dr⟩ := hP
  -- put together
  refine ⟨.int (2 + r), rfl, .ref a, rfl, a, a0, 3, rfl, dr.dl, by decide, by decide, fun C1 r4 dr1 h40 h43 => ⟨_, _, rfl, rfl, ?_⟩⟩
  have dr2 := dr.trans dr1
  clear dr1 dr
  dsimp only
  generalize hwd : 2 + r + r4 = wd
  refine ⟨.ref ra, rfl, .int wd, rfl, .ref ra, row, wd, rfl, hrowB.te dr2.te, hg8, by omega, fun C2 vt sm2 hvt => ?_⟩
  have dr3 := dr2.same sm2
  have hpg : ∀ p ∈ putM wd row, Good bl.length p := put_good hgood
  have hpg8 : ∀ p ∈ putM wd row, Good 8 p := put_good hg8
  have hpl : (putM wd row).length ≤ row.length := put_length hg8
  clear dr2
  refine ⟨vt, rfl, rp_row hvt hpg8 (by omega) ?_⟩
  refine ⟨.ref ra, rfl, .int wd, rfl, .ref ra, row, wd, rfl, hrowB.te dr3.te, hg8, by omega, fun C3 v3 sm3 hv3 => rp_row hv3 hpg8 (by omega) ⟨rfl, _, rfl, ?_⟩⟩
  rw [decide_eq_true rfl]
  refine iteF ?_
  have dr4 := dr3.same sm3
  refine ⟨.int wd, rfl, .ref ra, rfl, .ref ra, row, wd, rfl, hrowB.te dr4.te, hg8, by omega, fun C4 v4 sm4 hv4 => rp_row hv4 hpg8 (by omega) ?_⟩
  have hvt4 := hvt.te (TE2.of (sm3.trans sm4))
  refine ⟨vt, rfl, rp_row hvt4 hpg8 (by omega) ⟨rfl, _, rfl, ?_⟩⟩
  rw [decide_eq_true rfl]
  refine iteF ?_
  have dr5 := dr4.same sm4
  clear hv4 hv3 hvt sm4 sm3 dr4 dr3 sm2
  -- the standing behind
  refine ⟨v', rfl, vt, rfl, v', vt, b, bl, putM wd row, rfl, hstB.te dr5.te, hvt4, hpg, fun C5 v5 sm5 hv5 => ?_⟩
  refine ⟨v', rfl, .ref ra, rfl, v', .ref ra, b, bl, row, rfl, hstB.te (dr5.same sm5).te, hrowB.te (dr5.same sm5).te, hgood, fun C6 v6 sm6 hv6 => ?_⟩
  refine st_eq (hv5.te (TE2.of sm6)) hv6 (put_behind hgood bl) ⟨_, rfl, iteF ?_⟩
  have dr6 := (dr5.same sm5).same sm6
  have hvt6 := hvt4.te (TE2.of (sm5.trans sm6))
  clear hv6 hv5 hvt4 dr5 sm6 sm5
  -- no two neighbours could be one
  obtain ⟨ta, ts, rfl, eta, hts⟩ := hvt6
  have htl := Paired.length hts
  refine ⟨.ref ta, rfl, ta, ts, rfl, .inr (SqT.of eta), 1, _, rfl, ⟨by decide, by decide, by omega, by omega⟩, fun D hD => ?_⟩
  refine lc_range (lo := 1) (n := (((ts.length : Nat) : Int) - 1).toNat) (fun j H' => Same C6 H' ∧ H' D = some (.lst [])) ⟨same_upd hD, upd_same⟩ (fun j H' hj hP => ?_) fun H' hP => ?_
  · obtain ⟨sm, eD⟩ := hP
    have hj1 : j + 1 < (putM wd row).length := by omega
    have e0 : (putM wd row)[j]? = some (putM wd row)[j] := List.getElem?_eq_getElem (by omega)
    have e1 : (putM wd row)[j + 1]? = some (putM wd row)[j + 1] := List.getElem?_eq_getElem hj1
    obtain ⟨y0, hy0, hq0⟩ := paired_get1 hts e0
    obtain ⟨y1, hy1, hq1⟩ := paired_get1 hts e1
    have g0 := hpg8 _ (List.getElem_mem (show j < (putM wd row).length by omega))
    have g1 := hpg8 _ (List.getElem_mem hj1)
    have hwide := put_wide (m := wd) hg8 e0 e1
    generalize (putM wd row)[j] = p0 at hq0 g0 hwide
    generalize (putM wd row)[j + 1] = p1 at hq1 g1 hwide
    obtain ⟨b0, z0, z1, rfl, eb0, ⟨c0, rfl, ec0⟩, _⟩ := hq0
    obtain ⟨b1, z2, z3, rfl, eb1, ⟨c1, rfl, ec1⟩, _⟩ := hq1
    have hs0 := g0.short
    have hs1 := g1.short
    have hj0 : (1 : Int) + (j : Int) - 1 = ((j : Nat) : Int) := by omega
    have hj1' : (1 : Int) + (j : Int) = ((j + 1 : Nat) : Int) := by omega
    refine ⟨rfl, ?_⟩
    refine ⟨.ref ta, rfl, .int (1 + (j : Int)), rfl, _, 1, rfl, rfl, ta, ts, _, .ref b0, rfl, rfl, SqT.of (sm _ _ eta), by rw [hj0]; exact atI_nat hy0, b0, _, 0, .ref c0, rfl, rfl, SqT.of (sm _ _ eb0), atI_nat (j := 0) rfl, ?_⟩
    refine ⟨.ref ta, rfl, .int (1 + (j : Int)), rfl, ta, ts, _, .ref b1, rfl, rfl, SqT.of (sm _ _ eta), by rw [hj1']; exact atI_nat hy1, b1, _, 0, .ref c1, rfl, rfl, SqT.of (sm _ _ eb1), atI_nat (j := 0) rfl, ?_⟩
    refine ⟨c0, c1, _, _, rfl, rfl, SqT.of (sm _ _ ec0), SqT.of (sm _ _ ec1), ?_, fun z => ?_, fun _ z => ?_, fun _ _ t nt => ?_⟩
    · rw [List.length_map, List.length_map]
      exact le_line (m := 100) (by omega) (by decide)
    · have := g0.two
      rw [List.map_eq_nil_iff.mp z] at this
      exact absurd this (by decide)
    · have := g1.two
      rw [List.map_eq_nil_iff.mp z] at this
      exact absurd this (by decide)
    · have smt := same_upd nt (o := .tup (p0.1.map V.int ++ p1.1.map V.int))
      refine ⟨t, p0.1 ++ p1.1, rfl, .inr (SqT.of (by rw [upd_same, List.map_append])), by rw [List.length_append]; omega, fun t5 nt5 => ?_⟩
      have gj := join_good g0 g1
      have hjl : (uni (p0.1 ++ p1.1)).length ≤ 8 := gj.short
      refine ⟨t5, _, _, rfl, upd_same, by omega, .int wd, rfl, _, _, rfl, rfl, _, rfl, ?_⟩
      rw [decide_eq_false (by omega)]
      have smB' := smt.trans (same_upd nt5 (o := SetO w t5 (fun j => decide (j ∈ p0.1 ++ p1.1)) (uni (p0.1 ++ p1.1)).length))
      exact iteF ⟨sm.trans smB', smB' _ _ eD⟩
  · obtain ⟨sm, eD⟩ := hP
    refine ⟨Nat.zero_le _, fun o no => ?_⟩
    have smo := same_upd no (o := .lst [])
    refine neNil (smo _ _ eD) upd_same (fun x hx => absurd hx List.not_mem_nil) ⟨_, rfl, ?_⟩
    exact iteF ⟨_, _, _, _, _, _, _, _, _, _, _, _, _, _, rfl, ((dr6.same sm).same smo).dl⟩
end
end K66
namespace K66
open PySem PySem.Spec PyProof.Rows L2
/-! ## the law called by the claim's caller: the guards of repr are known there -/
section
variable {P : Program} {w : World} {K : PySem.W.Frag} {mg mb : Str → Option Value} {base : Heap}
theorem law_run {fa a : Addr} {fd : FuncData} {s : Shared} {H : Hp} {ks : List Int} (F : Fun K "law" "law" dLaw fa fd) (D : Defs P w K mg base) (hr : Room 6 callerA) (e0 : Env0 P w K mg base callerA [] s H)
    (hb : ∀ u : Value, BindsTo s fd ⟨[u], []⟩ [("_law_script", u)]) (hS : SqL K H a (ks.map V.int)) :
    codeAny (model P w) callerA (.call (.ref fa) ⟨[.ref a], []⟩) (CR CX0 [] P w H s (fun v _ => v = .bl true) E0) s := by
  obtain ⟨oc, od, kV, doc, pm, an, cdv, ct, osl, rfl, lk, hcd⟩ := F.ex
  have now : ∀ b o, base.get? b = some o → s.heap.get? b = some o := fun b o e => (e0.bs b o e).1
  have kin := e0.mod.kin.keeps now
  have body := law_body (f := fa) D cdv s H [.ref a] (fun v _ => v = .bl true) E0 (hr.deeper _) ⟨a, ks, rfl, hS, fun _ => rfl⟩
  obtain ⟨t, walk, ends⟩ := body
  have run := walk.nox
  refine codeAny_call_function hr.depth (kin _ _ lk) rfl scLaw.co scLaw.gen rfl (PySem.W.codeRec_of kin hcd) (hb (.ref a) _ _ _ _ ?_)
  refine wpAny_newFunctionEnv_cells scLaw.kind (fun y hy => ?_) fun env he s1 x => ?_
  · rw [List.mem_singleton.mp hy]
    exact .inl rfl
  · subst he
    refine ⟨(e0.mod.nolimit.keeps now).keeps x.toInCall.keep, codeAny_func ?_⟩
    have I : Inv (cxOf CX0 P w K mg base nLaw "law" (defScope dLaw) fa cdv callerA [] s H E0) [] (start nLaw [.ref a]) H s1 := inv_start (ps := ["_law_script"]) (us := [.ref a]) (vs := [.ref a]) scLaw hr.hd e0 rfl (.cons rfl .nil) x
    refine wpAny_mono (run.run [] s1 _ H _ I ends) (fun fl s' hs => ?_) fun e s' hs => hs
    cases fl with
    | ret u =>
      obtain ⟨v, σ', H', J, rv, qv⟩ := hs
      exact ⟨v, H', J.os, J.bare, J.base, J.hok, rv, qv⟩
    | next =>
      obtain ⟨σ', H', J, qv⟩ := hs
      exact ⟨V.non, H', J.os, J.bare, J.base, J.hok, rfl, qv⟩
    | brk => exact hs.elim fun _ z => z.elim fun _ z => False.elim z.2
    | cont => exact hs.elim fun _ z => z.elim fun _ z => False.elim z.2
/-- the heap behind the top, where only the script may be told -/
theorem start_env {s : Shared} {H : Hp} (kin : K.In s.heap) (hg : s.heap.Ns mainGlobals mg) (hb : s.heap.Ns builtinsNs mb) (hbb : ∀ x : Str, x ≠ "__name__" → mb x = bootBuiltins x) (hlim : s.heap.NoLimit) (gens : s.gens = #[]) (hok : HOk P w H s.heap)
    (only : ∀ b : Addr, H b ≠ none → K.lookup b = none ∧ ∃ (o : Obj) (xs : Array Value) (n : Nat), s.heap.get? b = some o ∧ o.data = .seq xs n) : Env0 P w K mg (hidT s.heap H) callerA [] s H := by
  have vis : ∀ {b : Addr} {m : Str → Option Value}, s.heap.Ns b m → (hidT s.heap H).Ns b m := fun {b m} z => by
    obtain ⟨o, es, ep, e, d, rest⟩ := z
    refine ⟨o, es, ep, hidT_get e ?_, d, rest⟩
    by_cases n : H b = none
    · exact n
    · obtain ⟨_, o', xs, k, e', d'⟩ := only b n
      rw [e] at e'
      cases e'
      rw [d] at d'
      cases d'
  have kin' : K.In (hidT s.heap H) := fun b o e => by
    refine hidT_get (kin b o e) ?_
    by_cases n : H b = none
    · exact n
    · rw [(only b n).1] at e
      cases e
  obtain ⟨mc, c1, c2⟩ := hlim
  exact ⟨rfl, ⟨kin', vis hg, ⟨mb, vis hb, hbb⟩, ⟨mc, vis c1, c2⟩⟩, fun b o e => of_hidT e, Nat.le_of_eq (hidT_size _ _), trivial, fun b z => absurd z List.not_mem_nil, hok, .of_eq gens⟩
/-- the law's call, from the defs over every base -/
theorem law_called {fa a : Addr} {fd : FuncData} {s : Shared} {vs : List Value} {ks : List Int} (kin : K.In s.heap) (hg : s.heap.Ns mainGlobals mg) (hb : s.heap.Ns builtinsNs mb) (hbb : ∀ x : Str, x ≠ "__name__" → mb x = bootBuiltins x) (hlim : s.heap.NoLimit) (gens : s.gens = #[])
    (ha : s.heap.get? a = some { cls := .type "list", data := .seq vs.toArray }) (hi : IntsAre vs ks) (hl : ks.length ≤ sizeLine) (hr : Room 6 callerA) (F : Fun K "law" "law" dLaw fa fd) (bind : ∀ u : Value, BindsTo s fd ⟨[u], []⟩ [("_law_script", u)])
    (D : ∀ base : Heap, K.In base → base.Ns mainGlobals mg → Defs P w K mg base) :
    codeAny (model P w) callerA (.call (.ref fa) ⟨[.ref a], []⟩) (fun r s' => r = .ok (.ret (.bool true)) ∧ OldK s.heap s'.heap ∧ s'.os = s.os ∧ AllBare s'.gens) s := by
  have rv := vals_ints hi
  have lenV := hi.length
  obtain ⟨H, hok, only, told, hS⟩ : ∃ H : Hp, HOk P w H s.heap ∧ (∀ b : Addr, H b ≠ none → K.lookup b = none ∧ ∃ (o : Obj) (xs : Array Value) (n : Nat), s.heap.get? b = some o ∧ o.data = .seq xs n) ∧ (∀ b : Addr, H b ≠ none → ∃ o xs, H b = some (.frz o (.lst xs))) ∧ SqL K H a (ks.map V.int) := by
    cases hk : K.lookup a with
    | some o =>
      have e := kin a o hk
      rw [ha] at e
      cases e
      refine ⟨fun _ => none, fun b u z => ?_, fun b z => absurd rfl z, fun b z => absurd rfl z, .inr ⟨_, vs.toArray, _, hk, rfl, rfl, rfl, by rw [List.size_toArray, lenV]; exact hl, by simpa using rv⟩⟩
      have z' : (none : Option HO) = some u := z
      cases z'
    | none =>
      refine ⟨fun b => if b = a then some (.frz { cls := .type "list", data := .seq vs.toArray } (.lst (ks.map V.int))) else none, fun b u z => ?_, fun b z => ?_, fun b z => ?_, .inl (.inr ⟨{ cls := .type "list", data := .seq vs.toArray }, if_pos rfl⟩)⟩
      · by_cases e : b = a
        · have z' := (if_pos e).symm.trans z
          cases z'
          subst e
          exact ⟨ha, by rw [List.length_map]; exact hl, vs, _, rv, ha⟩
        · have z' := (if_neg e).symm.trans z
          cases z'
      · by_cases e : b = a
        · subst e
          exact ⟨hk, _, _, _, ha, rfl⟩
        · exact absurd (if_neg e) z
      · by_cases e : b = a
        · exact ⟨_, _, if_pos e⟩
        · exact absurd (if_neg e) z
  have e0 := start_env (P := P) (w := w) kin hg hb hbb hlim gens hok only
  refine codeAny_mono (law_run F (D _ e0.mod.kin e0.mod.glob) hr e0 bind hS) fun r s' h => ?_
  match r, h with
  | .error e, h => exact h.elim
  | .ok (.ret u), h =>
    obtain ⟨v, H', os, bare, un, hok', rel, rfl⟩ := h
    cases rel
    refine ⟨rfl, OldK.of_keep fun b o e => ?_, os, bare⟩
    by_cases n : H b = none
    · exact un.keep b o e n List.not_mem_nil (by simp)
    · obtain ⟨ob, xs, z⟩ := told b n
      have z2 := un.frzs b ob _ z
      have e1 := (hok b _ z).1
      rw [e] at e1
      cases e1
      exact (hok' b _ z2).1
end
end K66
namespace K66
open PySem PySem.Spec PyProof.Rows L2
/-- the head: what the top has written, and the law's promise -/
theorem walk_ours {l : PySem.W.OpenLaw} {n : Nat} {q : Program} {loose : List Str} {XP : (Str → Option Value) → Heap → Prop} {YP : World → Heap → Prop} {d : DefRec} {K : Params → PySem.W.Frag}
    (hn : l.most = some n) (hn2 : n ≤ sizeLine) (hdf : d.params.defaults = []) (hr : Room 6 callerA) (hY : ∀ (w : World) (h : Heap), YP w h → (K w.params).In h)
    (F : ∀ (w : World) (mg : Str → Option Value) (fa : Addr) (h : Heap), (K w.params).In h → h.Ns mainGlobals mg → mg d.name = some (.ref fa) →
      ∃ fd : FuncData, Fun (K w.params) "law" "law" dLaw fa fd ∧ (∀ (s : Shared) (u : Value), BindsTo s fd ⟨[u], []⟩ [("_law_script", u)]) ∧ ∀ base : Heap, (K w.params).In base → base.Ns mainGlobals mg → Defs l.prog w (K w.params) mg base) :
    PySem.W.WalkO q loose XP YP l.row.toRowW d [] (fun f vs => PySem.call f vs) := by
  refine Att.attach_call hn hdf fun w s0 s1 mg mb fa o pm cd doc a vs ns G Y ho hd hcd hmg hobj hints hlen hg => ?_
  obtain ⟨fd, FL, hb, hD⟩ := F w mg fa _ (hY w _ Y) G.T.g hmg
  exact law_called (hY w _ Y) G.T.g G.T.b G.T.builtins G.T.nolimit hg hobj hints (Nat.le_trans hlen hn2) hr FL (hb s1) hD
theorem all_mk {l : PySem.W.OpenLaw} {w : World} {K : PySem.W.Frag} {h : Heap} {mg : Str → Option Value} {fa f1 f2 f3 f4 f5 f6 f7 f8 f9 f10 f11 f12 f13 f14 f15 f16 f17 f18 f19 f20 f21 f22 : Addr} (X : K.In h) (G : h.Ns mainGlobals mg) (hfa : mg "law" = some (.ref fa))
    {od1 an1 od2 an2 od3 an3 od4 an4 od5 an5 od6 an6 od7 an7 od8 an8 od9 an9 od10 an10 od11 an11 od12 an12 od13 an13 od14 an14 od15 an15 od16 an16 od17 an17 od18 an18 od19 an19 od20 an20 od21 an21 od22 an22 : Option Addr} {sl1 sl2 sl3 sl4 sl5 sl6 sl7 sl8 sl9 sl10 sl11 sl12 sl13 sl14 sl15 sl16 sl17 sl18 sl19 sl20 sl21 sl22 : Array (Option Value)} {oc1 kV1 dc1 pm1 cd1 ct1 oc2 kV2 dc2 pm2 cd2 ct2 oc3 kV3 dc3 pm3 cd3 ct3 oc4 kV4 dc4 pm4 cd4 ct4 oc5 kV5 dc5 pm5 cd5 ct5 oc6 kV6 dc6 pm6 cd6 ct6 oc7 kV7 dc7 pm7 cd7 ct7 oc8 kV8 dc8 pm8 cd8 ct8 oc9 kV9 dc9 pm9 cd9 ct9 oc10 kV10 dc10 pm10 cd10 ct10 oc11 kV11 dc11 pm11 cd11 ct11 oc12 kV12 dc12 pm12 cd12 ct12 oc13 kV13 dc13 pm13 cd13 ct13 oc14 kV14 dc14 pm14 cd14 ct14 oc15 kV15 dc15 pm15 cd15 ct15 oc16 kV16 dc16 pm16 cd16 ct16 oc17 kV17 dc17 pm17 cd17 ct17 oc18 kV18 dc18 pm18 cd18 ct18 oc19 kV19 dc19 pm19 cd19 ct19 oc20 kV20 dc20 pm20 cd20 ct20 oc21 kV21 dc21 pm21 cd21 ct21 oc22 kV22 dc22 pm22 cd22 ct22 : Value}
    (a1 : PySem.W.nsIn K mainGlobals "are_apart" = some (some (.ref f1))) (l1 : K.lookup f1 = some ⟨oc1, od1, .func (PySem.W.fnOf "are_apart" "are_apart" (defArgs dApart) (defBody dApart) (defScope dApart) .none kV1 dc1 pm1 an1 cd1 ct1), sl1⟩) (c1 : PySem.W.codeIn K cd1 "are_apart" = true) (k1 : PySem.W.keepIn K (.ref f1) = true)
    (a2 : PySem.W.nsIn K mainGlobals "rounds_of" = some (some (.ref f2))) (l2 : K.lookup f2 = some ⟨oc2, od2, .func (PySem.W.fnOf "rounds_of" "rounds_of" (defArgs dRounds) (defBody dRounds) (defScope dRounds) .none kV2 dc2 pm2 an2 cd2 ct2), sl2⟩) (c2 : PySem.W.codeIn K cd2 "rounds_of" = true) (k2 : PySem.W.keepIn K (.ref f2) = true)
    (a3 : PySem.W.nsIn K mainGlobals "settled" = some (some (.ref f3))) (l3 : K.lookup f3 = some ⟨oc3, od3, .func (PySem.W.fnOf "settled" "settled" (defArgs dSettled) (defBody dSettled) (defScope dSettled) .none kV3 dc3 pm3 an3 cd3 ct3), sl3⟩) (c3 : PySem.W.codeIn K cd3 "settled" = true) (k3 : PySem.W.keepIn K (.ref f3) = true)
    (a4 : PySem.W.nsIn K mainGlobals "are_exchanges" = some (some (.ref f4))) (l4 : K.lookup f4 = some ⟨oc4, od4, .func (PySem.W.fnOf "are_exchanges" "are_exchanges" (defArgs dExch) (defBody dExch) (defScope dExch) .none kV4 dc4 pm4 an4 cd4 ct4), sl4⟩) (c4 : PySem.W.codeIn K cd4 "are_exchanges" = true) (k4 : PySem.W.keepIn K (.ref f4) = true)
    (a5 : PySem.W.nsIn K mainGlobals "joined" = some (some (.ref f5))) (l5 : K.lookup f5 = some ⟨oc5, od5, .func (PySem.W.fnOf "joined" "joined" (defArgs dJoined) (defBody dJoined) (defScope dJoined) .none kV5 dc5 pm5 an5 cd5 ct5), sl5⟩) (c5 : PySem.W.codeIn K cd5 "joined" = true) (k5 : PySem.W.keepIn K (.ref f5) = true)
    (a6 : PySem.W.nsIn K mainGlobals "put_together" = some (some (.ref f6))) (l6 : K.lookup f6 = some ⟨oc6, od6, .func (PySem.W.fnOf "put_together" "put_together" (defArgs dPut) (defBody dPut) (defScope dPut) .none kV6 dc6 pm6 an6 cd6 ct6), sl6⟩) (c6 : PySem.W.codeIn K cd6 "put_together" = true) (k6 : PySem.W.keepIn K (.ref f6) = true)
    (a7 : PySem.W.nsIn K mainGlobals "_law_draw" = some (some (.ref f7))) (l7 : K.lookup f7 = some ⟨oc7, od7, .func (PySem.W.fnOf "_law_draw" "_law_draw" (defArgs dDraw) (defBody dDraw) (defScope dDraw) .none kV7 dc7 pm7 an7 cd7 ct7), sl7⟩) (c7 : PySem.W.codeIn K cd7 "_law_draw" = true) (k7 : PySem.W.keepIn K (.ref f7) = true)
    (a8 : PySem.W.nsIn K mainGlobals "_law_any" = some (some (.ref f8))) (l8 : K.lookup f8 = some ⟨oc8, od8, .func (PySem.W.fnOf "_law_any" "_law_any" (defArgs dAny) (defBody dAny) (defScope dAny) .none kV8 dc8 pm8 an8 cd8 ct8), sl8⟩) (c8 : PySem.W.codeIn K cd8 "_law_any" = true) (k8 : PySem.W.keepIn K (.ref f8) = true)
    (a9 : PySem.W.nsIn K mainGlobals "_law_of" = some (some (.ref f9))) (l9 : K.lookup f9 = some ⟨oc9, od9, .func (PySem.W.fnOf "_law_of" "_law_of" (defArgs dOf) (defBody dOf) (defScope dOf) .none kV9 dc9 pm9 an9 cd9 ct9), sl9⟩) (c9 : PySem.W.codeIn K cd9 "_law_of" = true) (k9 : PySem.W.keepIn K (.ref f9) = true)
    (a10 : PySem.W.nsIn K mainGlobals "_law_mixed" = some (some (.ref f10))) (l10 : K.lookup f10 = some ⟨oc10, od10, .func (PySem.W.fnOf "_law_mixed" "_law_mixed" (defArgs dMixed) (defBody dMixed) (defScope dMixed) .none kV10 dc10 pm10 an10 cd10 ct10), sl10⟩) (c10 : PySem.W.codeIn K cd10 "_law_mixed" = true) (k10 : PySem.W.keepIn K (.ref f10) = true)
    (a11 : PySem.W.nsIn K mainGlobals "_law_dealt" = some (some (.ref f11))) (l11 : K.lookup f11 = some ⟨oc11, od11, .func (PySem.W.fnOf "_law_dealt" "_law_dealt" (defArgs dDealt) (defBody dDealt) (defScope dDealt) .none kV11 dc11 pm11 an11 cd11 ct11), sl11⟩) (c11 : PySem.W.codeIn K cd11 "_law_dealt" = true) (k11 : PySem.W.keepIn K (.ref f11) = true)
    (a12 : PySem.W.nsIn K mainGlobals "_law_standing" = some (some (.ref f12))) (l12 : K.lookup f12 = some ⟨oc12, od12, .func (PySem.W.fnOf "_law_standing" "_law_standing" (defArgs dStanding) (defBody dStanding) (defScope dStanding) .none kV12 dc12 pm12 an12 cd12 ct12), sl12⟩) (c12 : PySem.W.codeIn K cd12 "_law_standing" = true) (k12 : PySem.W.keepIn K (.ref f12) = true)
    (a13 : PySem.W.nsIn K mainGlobals "_law_pour" = some (some (.ref f13))) (l13 : K.lookup f13 = some ⟨oc13, od13, .func (PySem.W.fnOf "_law_pour" "_law_pour" (defArgs dPour) (defBody dPour) (defScope dPour) .none kV13 dc13 pm13 an13 cd13 ct13), sl13⟩) (c13 : PySem.W.codeIn K cd13 "_law_pour" = true) (k13 : PySem.W.keepIn K (.ref f13) = true)
    (a14 : PySem.W.nsIn K mainGlobals "_law_poured" = some (some (.ref f14))) (l14 : K.lookup f14 = some ⟨oc14, od14, .func (PySem.W.fnOf "_law_poured" "_law_poured" (defArgs dPoured) (defBody dPoured) (defScope dPoured) .none kV14 dc14 pm14 an14 cd14 ct14), sl14⟩) (c14 : PySem.W.codeIn K cd14 "_law_poured" = true) (k14 : PySem.W.keepIn K (.ref f14) = true)
    (a15 : PySem.W.nsIn K mainGlobals "_law_apart" = some (some (.ref f15))) (l15 : K.lookup f15 = some ⟨oc15, od15, .func (PySem.W.fnOf "_law_apart" "_law_apart" (defArgs dLApart) (defBody dLApart) (defScope dLApart) .none kV15 dc15 pm15 an15 cd15 ct15), sl15⟩) (c15 : PySem.W.codeIn K cd15 "_law_apart" = true) (k15 : PySem.W.keepIn K (.ref f15) = true)
    (a16 : PySem.W.nsIn K mainGlobals "_law_turns" = some (some (.ref f16))) (l16 : K.lookup f16 = some ⟨oc16, od16, .func (PySem.W.fnOf "_law_turns" "_law_turns" (defArgs dTurns) (defBody dTurns) (defScope dTurns) .none kV16 dc16 pm16 an16 cd16 ct16), sl16⟩) (c16 : PySem.W.codeIn K cd16 "_law_turns" = true) (k16 : PySem.W.keepIn K (.ref f16) = true)
    (a17 : PySem.W.nsIn K mainGlobals "_law_all_exchanges" = some (some (.ref f17))) (l17 : K.lookup f17 = some ⟨oc17, od17, .func (PySem.W.fnOf "_law_all_exchanges" "_law_all_exchanges" (defArgs dAll) (defBody dAll) (defScope dAll) .none kV17 dc17 pm17 an17 cd17 ct17), sl17⟩) (c17 : PySem.W.codeIn K cd17 "_law_all_exchanges" = true) (k17 : PySem.W.keepIn K (.ref f17) = true)
    (a18 : PySem.W.nsIn K mainGlobals "_law_behind" = some (some (.ref f18))) (l18 : K.lookup f18 = some ⟨oc18, od18, .func (PySem.W.fnOf "_law_behind" "_law_behind" (defArgs dBehind) (defBody dBehind) (defScope dBehind) .none kV18 dc18 pm18 an18 cd18 ct18), sl18⟩) (c18 : PySem.W.codeIn K cd18 "_law_behind" = true) (k18 : PySem.W.keepIn K (.ref f18) = true)
    (a19 : PySem.W.nsIn K mainGlobals "_law_is_row" = some (some (.ref f19))) (l19 : K.lookup f19 = some ⟨oc19, od19, .func (PySem.W.fnOf "_law_is_row" "_law_is_row" (defArgs dIsRow) (defBody dIsRow) (defScope dIsRow) .none kV19 dc19 pm19 an19 cd19 ct19), sl19⟩) (c19 : PySem.W.codeIn K cd19 "_law_is_row" = true) (k19 : PySem.W.keepIn K (.ref f19) = true)
    (a20 : PySem.W.nsIn K mainGlobals "_law_row" = some (some (.ref f20))) (l20 : K.lookup f20 = some ⟨oc20, od20, .func (PySem.W.fnOf "_law_row" "_law_row" (defArgs dRow) (defBody dRow) (defScope dRow) .none kV20 dc20 pm20 an20 cd20 ct20), sl20⟩) (c20 : PySem.W.codeIn K cd20 "_law_row" = true) (k20 : PySem.W.keepIn K (.ref f20) = true)
    (a21 : PySem.W.nsIn K mainGlobals "_law_put" = some (some (.ref f21))) (l21 : K.lookup f21 = some ⟨oc21, od21, .func (PySem.W.fnOf "_law_put" "_law_put" (defArgs dLPut) (defBody dLPut) (defScope dLPut) .none kV21 dc21 pm21 an21 cd21 ct21), sl21⟩) (c21 : PySem.W.codeIn K cd21 "_law_put" = true) (k21 : PySem.W.keepIn K (.ref f21) = true)
    (a22 : PySem.W.nsIn K mainGlobals "law" = some (some (.ref f22))) (l22 : K.lookup f22 = some ⟨oc22, od22, .func (PySem.W.fnOf "law" "law" (defArgs dLaw) (defBody dLaw) (defScope dLaw) .none kV22 dc22 pm22 an22 cd22 ct22), sl22⟩) (c22 : PySem.W.codeIn K cd22 "law" = true) (k22 : PySem.W.keepIn K (.ref f22) = true)
    (z1 : PySem.W.nsIn K mainGlobals "abs" = some none) (z2 : PySem.W.nsIn K mainGlobals "any" = some none) (z3 : PySem.W.nsIn K mainGlobals "dict" = some none) (z4 : PySem.W.nsIn K mainGlobals "enumerate" = some none) (z5 : PySem.W.nsIn K mainGlobals "int" = some none) (z6 : PySem.W.nsIn K mainGlobals "len" = some none) (z7 : PySem.W.nsIn K mainGlobals "list" = some none) (z8 : PySem.W.nsIn K mainGlobals "max" = some none) (z9 : PySem.W.nsIn K mainGlobals "min" = some none) (z10 : PySem.W.nsIn K mainGlobals "range" = some none) (z11 : PySem.W.nsIn K mainGlobals "repr" = some none) (z12 : PySem.W.nsIn K mainGlobals "set" = some none) (z13 : PySem.W.nsIn K mainGlobals "sorted" = some none) (z14 : PySem.W.nsIn K mainGlobals "tuple" = some none) (z15 : PySem.W.nsIn K mainGlobals "zip" = some none) :
    ∃ fd : FuncData, Fun K "law" "law" dLaw fa fd ∧ (∀ (s : Shared) (u : Value), BindsTo s fd ⟨[u], []⟩ [("_law_script", u)]) ∧ ∀ base : Heap, K.In base → base.Ns mainGlobals mg → Defs l.prog w K mg base := by
  have e := hfa.symm.trans (PySem.W.mg_of X G a22)
  cases e
  have F1 := fun_mk (st := dApart) l1 c1 k1
  have g1 := PySem.W.mg_of X G a1
  have b1 := F1.binds (ps := ["one", "other"]) fun _ _ _ _ _ _ us hl => match us, hl with | [_, _], _ => rfl
  have F2 := fun_mk (st := dRounds) l2 c2 k2
  have g2 := PySem.W.mg_of X G a2
  have b2 := F2.binds (ps := ["row"]) fun _ _ _ _ _ _ us hl => match us, hl with | [_], _ => rfl
  have F3 := fun_mk (st := dSettled) l3 c3 k3
  have g3 := PySem.W.mg_of X G a3
  have b3 := F3.binds (ps := ["row"]) fun _ _ _ _ _ _ us hl => match us, hl with | [_], _ => rfl
  have F4 := fun_mk (st := dExch) l4 c4 k4
  have g4 := PySem.W.mg_of X G a4
  have b4 := F4.binds (ps := ["one", "other"]) fun _ _ _ _ _ _ us hl => match us, hl with | [_, _], _ => rfl
  have F5 := fun_mk (st := dJoined) l5 c5 k5
  have g5 := PySem.W.mg_of X G a5
  have b5 := F5.binds (ps := ["first", "second"]) fun _ _ _ _ _ _ us hl => match us, hl with | [_, _], _ => rfl
  have F6 := fun_mk (st := dPut) l6 c6 k6
  have g6 := PySem.W.mg_of X G a6
  have b6 := F6.binds (ps := ["row", "m"]) fun _ _ _ _ _ _ us hl => match us, hl with | [_, _], _ => rfl
  have F7 := fun_mk (st := dDraw) l7 c7 k7
  have g7 := PySem.W.mg_of X G a7
  have b7 := F7.binds (ps := ["_law_script", "_law_salt"]) fun _ _ _ _ _ _ us hl => match us, hl with | [_, _], _ => rfl
  have F8 := fun_mk (st := dAny) l8 c8 k8
  have g8 := PySem.W.mg_of X G a8
  have b8 := F8.binds (ps := ["_law_deal", "_law_bound"]) fun _ _ _ _ _ _ us hl => match us, hl with | [_, _], _ => rfl
  have F9 := fun_mk (st := dOf) l9 c9 k9
  have g9 := PySem.W.mg_of X G a9
  have b9 := F9.binds (ps := ["_law_deal", "_law_some"]) fun _ _ _ _ _ _ us hl => match us, hl with | [_, _], _ => rfl
  have F10 := fun_mk (st := dMixed) l10 c10 k10
  have g10 := PySem.W.mg_of X G a10
  have b10 := F10.binds (ps := ["_law_deal", "_law_some"]) fun _ _ _ _ _ _ us hl => match us, hl with | [_, _], _ => rfl
  have F11 := fun_mk (st := dDealt) l11 c11 k11
  have g11 := PySem.W.mg_of X G a11
  have b11 := F11.binds (ps := ["_law_deal", "_law_b", "_law_many", "_law_records"]) fun _ _ _ _ _ _ us hl => match us, hl with | [_, _, _, _], _ => rfl
  have F12 := fun_mk (st := dStanding) l12 c12 k12
  have g12 := PySem.W.mg_of X G a12
  have b12 := F12.binds (ps := ["_law_deal", "_law_most", "_law_size"]) fun _ _ _ _ _ _ us hl => match us, hl with | [_, _, _], _ => rfl
  have F13 := fun_mk (st := dPour) l13 c13 k13
  have g13 := PySem.W.mg_of X G a13
  have b13 := F13.binds (ps := ["_law_deal", "_law_standing_here", "_law_m"]) fun _ _ _ _ _ _ us hl => match us, hl with | [_, _, _], _ => rfl
  have F14 := fun_mk (st := dPoured) l14 c14 k14
  have g14 := PySem.W.mg_of X G a14
  have b14 := F14.binds (ps := ["_law_standing_here", "_law_pour_here"]) fun _ _ _ _ _ _ us hl => match us, hl with | [_, _], _ => rfl
  have F15 := fun_mk (st := dLApart) l15 c15 k15
  have g15 := PySem.W.mg_of X G a15
  have b15 := F15.binds (ps := ["_law_one", "_law_other"]) fun _ _ _ _ _ _ us hl => match us, hl with | [_, _], _ => rfl
  have F16 := fun_mk (st := dTurns) l16 c16 k16
  have g16 := PySem.W.mg_of X G a16
  have b16 := F16.binds (ps := ["_law_row_here"]) fun _ _ _ _ _ _ us hl => match us, hl with | [_], _ => rfl
  have F17 := fun_mk (st := dAll) l17 c17 k17
  have g17 := PySem.W.mg_of X G a17
  have b17 := F17.binds (ps := ["_law_row_here"]) fun _ _ _ _ _ _ us hl => match us, hl with | [_], _ => rfl
  have F18 := fun_mk (st := dBehind) l18 c18 k18
  have g18 := PySem.W.mg_of X G a18
  have b18 := F18.binds (ps := ["_law_standing_here", "_law_row_here"]) fun _ _ _ _ _ _ us hl => match us, hl with | [_, _], _ => rfl
  have F19 := fun_mk (st := dIsRow) l19 c19 k19
  have g19 := PySem.W.mg_of X G a19
  have b19 := F19.binds (ps := ["_law_standing_here", "_law_row_here"]) fun _ _ _ _ _ _ us hl => match us, hl with | [_, _], _ => rfl
  have F20 := fun_mk (st := dRow) l20 c20 k20
  have g20 := PySem.W.mg_of X G a20
  have b20 := F20.binds (ps := ["_law_deal", "_law_standing_here", "_law_m", "_law_many"]) fun _ _ _ _ _ _ us hl => match us, hl with | [_, _, _, _], _ => rfl
  have F21 := fun_mk (st := dLPut) l21 c21 k21
  have g21 := PySem.W.mg_of X G a21
  have b21 := F21.binds (ps := ["_law_row_here", "_law_m"]) fun _ _ _ _ _ _ us hl => match us, hl with | [_, _], _ => rfl
  have F22 := fun_mk (st := dLaw) l22 c22 k22
  have g22 := PySem.W.mg_of X G a22
  have n_abs := PySem.W.mg_none_of X G z1
  have n_any := PySem.W.mg_none_of X G z2
  have n_dict := PySem.W.mg_none_of X G z3
  have n_enumerate := PySem.W.mg_none_of X G z4
  have n_int := PySem.W.mg_none_of X G z5
  have n_len := PySem.W.mg_none_of X G z6
  have n_list := PySem.W.mg_none_of X G z7
  have n_max := PySem.W.mg_none_of X G z8
  have n_min := PySem.W.mg_none_of X G z9
  have n_range := PySem.W.mg_none_of X G z10
  have n_repr := PySem.W.mg_none_of X G z11
  have n_set := PySem.W.mg_none_of X G z12
  have n_sorted := PySem.W.mg_none_of X G z13
  have n_tuple := PySem.W.mg_none_of X G z14
  have n_zip := PySem.W.mg_none_of X G z15
  refine ⟨_, F22, fun s u => .of_eq rfl, fun base _ _ => ?_⟩
  have G_any : FnOk l.prog w K mg base CX0 1 _ _ _ spAny := ok_any F8 n_int
  have A1 : AnyP l.prog w K mg base 1 _ _ := ⟨F8, G_any, b8, g8⟩
  have G_mixed := ok_mixed F10 A1 n_len n_list
  have M2 : MixP l.prog w K mg base 2 _ _ := ⟨F10, G_mixed, b10, g10⟩
  have G_of := ok_of F9 A1 n_len
  have G_dealt := ok_dealt F11 F10 G_mixed b10 g10 F9 G_of b9 g9 n_len n_range n_tuple n_sorted
  have D3 : DealtP l.prog w K mg base 3 _ _ := ⟨F11, G_dealt, b11, g11⟩
  have G_pour := ok_pour F13 A1 M2 D3 n_range n_list n_len n_min n_sorted n_tuple
  have G_poured : FnOk l.prog w K mg base CX0 1 _ _ _ spPoured := ok_poured F14 n_list n_zip n_tuple
  have P4 : PourP l.prog w K mg base 4 _ _ := ⟨F13, G_pour, b13, g13⟩
  have Q1 : PouredP l.prog w K mg base 1 _ _ spPoured := ⟨F14, G_poured, b14, g14⟩
  have G_lapart : FnOk l.prog w K mg base CX0 1 _ _ _ spApart := ok_lapart F15
  have LA : LApartP l.prog w K mg base 1 _ _ := ⟨F15, G_lapart, b15, g15⟩
  have G_rounds : FnOk l.prog w K mg base CX0 2 _ _ _ spRounds := ok_rounds F2 F1 b1 g1 n_any n_enumerate n_max n_range n_tuple
  have G_settled := ok_settled (k := 0) F3 F2 G_rounds b2 g2 n_sorted n_zip n_tuple
  have G_exch := ok_exch F4 F3 G_settled b3 g3
  have G_joined : FnOk l.prog w K mg base CX0 1 _ _ _ spJoined := ok_joined F5 n_dict n_zip n_sorted n_tuple
  have G_put := ok_put F6 F5 G_joined b5 g5 n_len n_set n_tuple
  exact {
    draw := ⟨_, _, F7, ok_draw F7 n_int n_abs, b7, g7⟩
    any := ⟨_, _, F8, G_any, b8, g8⟩
    mixed := ⟨_, _, F10, G_mixed, b10, g10⟩
    standing := ⟨_, _, F12, ok_standing F12 A1 D3 n_range n_list, b12, g12⟩
    row := ⟨_, _, F20, ok_row F20 P4 Q1 n_range n_tuple, b20, g20⟩
    turns := ⟨_, _, F16, ok_turns F16 LA n_len n_max n_range, b16, g16⟩
    apart := ⟨_, _, F15, G_lapart, b15, g15⟩
    all := ⟨_, _, F17, ok_all F17 LA n_len n_range, b17, g17⟩
    behind := ⟨_, _, F18, ok_behind F18 Q1, b18, g18⟩
    isrow := ⟨_, _, F19, ok_isrow F19 Q1 n_zip n_list n_sorted, b19, g19⟩
    lput := ⟨_, _, F21, ok_lput F21 n_list n_zip n_len n_set n_tuple n_sorted, b21, g21⟩
    rounds := ⟨_, _, ⟨F2, G_rounds, b2, g2⟩, kb1 F2 fun _ _ _ _ _ _ _ => rfl⟩
    settled := ⟨_, _, ⟨F3, G_settled, b3, g3⟩, kb1 F3 fun _ _ _ _ _ _ _ => rfl⟩
    exch := ⟨_, _, ⟨F4, G_exch, b4, g4⟩, kb2 F4 fun _ _ _ _ _ _ _ _ => rfl⟩
    put := ⟨_, _, ⟨F6, G_put, b6, g6⟩, kb2 F6 fun _ _ _ _ _ _ _ _ => rfl⟩
    n_list := n_list, n_len := n_len, n_max := n_max, n_range := n_range, n_repr := n_repr, n_set := n_set, n_sorted := n_sorted, n_tuple := n_tuple, n_zip := n_zip }
end K66
open PySem PySem.W PyProof.Rows
set_option maxHeartbeats 0 in
theorem PySem.Challenge.cw_fewestpours_k66_whole_rounds_and_pours_p_holds : PySem.Challenge.rw_fewestpours_k66_whole_rounds_and_pours_p.Holds := by
  w_on; o_law; k_head; (case hw => w_witness2)
  k_fill
  refine K66.walk_ours (l := PySem.Challenge.rw_fewestpours_k66_whole_rounds_and_pours_p) (n := 63) rfl (by decide) rfl ⟨rfl, by decide, by decide⟩ (fun w h Y => PySem.W.kIn_of Y) ?F
  case F =>
    intro w mg fa h KX G hmg
    refine' K66.all_mk KX G hmg ?a1 ?l1 ?c1 ?k1 ?a2 ?l2 ?c2 ?k2 ?a3 ?l3 ?c3 ?k3 ?a4 ?l4 ?c4 ?k4 ?a5 ?l5 ?c5 ?k5 ?a6 ?l6 ?c6 ?k6 ?a7 ?l7 ?c7 ?k7 ?a8 ?l8 ?c8 ?k8 ?a9 ?l9 ?c9 ?k9 ?a10 ?l10 ?c10 ?k10 ?a11 ?l11 ?c11 ?k11 ?a12 ?l12 ?c12 ?k12 ?a13 ?l13 ?c13 ?k13 ?a14 ?l14 ?c14 ?k14 ?a15 ?l15 ?c15 ?k15 ?a16 ?l16 ?c16 ?k16 ?a17 ?l17 ?c17 ?k17 ?a18 ?l18 ?c18 ?k18 ?a19 ?l19 ?c19 ?k19 ?a20 ?l20 ?c20 ?k20 ?a21 ?l21 ?c21 ?k21 ?a22 ?l22 ?c22 ?k22 ?z1 ?z2 ?z3 ?z4 ?z5 ?z6 ?z7 ?z8 ?z9 ?z10 ?z11 ?z12 ?z13 ?z14 ?z15
    (case a1 => k_is); (case l1 => k_is); (case c1 => k_is); (case k1 => k_is)
    (case a2 => k_is); (case l2 => k_is); (case c2 => k_is); (case k2 => k_is)
    (case a3 => k_is); (case l3 => k_is); (case c3 => k_is); (case k3 => k_is)
    (case a4 => k_is); (case l4 => k_is); (case c4 => k_is); (case k4 => k_is)
    (case a5 => k_is); (case l5 => k_is); (case c5 => k_is); (case k5 => k_is)
    (case a6 => k_is); (case l6 => k_is); (case c6 => k_is); (case k6 => k_is)
    (case a7 => k_is); (case l7 => k_is); (case c7 => k_is); (case k7 => k_is)
    (case a8 => k_is); (case l8 => k_is); (case c8 => k_is); (case k8 => k_is)
    (case a9 => k_is); (case l9 => k_is); (case c9 => k_is); (case k9 => k_is)
    (case a10 => k_is); (case l10 => k_is); (case c10 => k_is); (case k10 => k_is)
    (case a11 => k_is); (case l11 => k_is); (case c11 => k_is); (case k11 => k_is)
    (case a12 => k_is); (case l12 => k_is); (case c12 => k_is); (case k12 => k_is)
    (case a13 => k_is); (case l13 => k_is); (case c13 => k_is); (case k13 => k_is)
    (case a14 => k_is); (case l14 => k_is); (case c14 => k_is); (case k14 => k_is)
    (case a15 => k_is); (case l15 => k_is); (case c15 => k_is); (case k15 => k_is)
    (case a16 => k_is); (case l16 => k_is); (case c16 => k_is); (case k16 => k_is)
    (case a17 => k_is); (case l17 => k_is); (case c17 => k_is); (case k17 => k_is)
    (case a18 => k_is); (case l18 => k_is); (case c18 => k_is); (case k18 => k_is)
    (case a19 => k_is); (case l19 => k_is); (case c19 => k_is); (case k19 => k_is)
    (case a20 => k_is); (case l20 => k_is); (case c20 => k_is); (case k20 => k_is)
    (case a21 => k_is); (case l21 => k_is); (case c21 => k_is); (case k21 => k_is)
    (case a22 => k_is); (case l22 => k_is); (case c22 => k_is); (case k22 => k_is)
    (case z1 => k_is); (case z2 => k_is); (case z3 => k_is); (case z4 => k_is); (case z5 => k_is); (case z6 => k_is); (case z7 => k_is); (case z8 => k_is); (case z9 => k_is); (case z10 => k_is); (case z11 => k_is); (case z12 => k_is); (case z13 => k_is); (case z14 => k_is); (case z15 => k_is)
