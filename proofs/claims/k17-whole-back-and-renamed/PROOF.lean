import PyProof.Rows.All
import Wide.All
import OpenK.AllK
import Wide.FinOn
import HandS.ForMost
import HandS.Zip
import HandS.Gcd
import HandS.IsInst
import HandS.Wide
import HandS.SetFor
import HandS.Walk
import KE.KMathGC
import KE.GoesEnum
import KE.KTupSum
import HandS.Codes
import HandS.Conv
import PySem.Challenge.RW_leastmoved_k17_whole_back_and_renamed
set_option Elab.async false
set_option linter.all false
set_option maxRecDepth 100000
set_option maxHeartbeats 4000000
/-! law k17: is_minimal both ways, renamed; count_changes renamed. The rules that the layer lacks, the walk (a promise a def), the plain law, the end. -/
/-! law k17: the mathematics, plain Lean (no program in sight) -/
namespace K17

/-! ### counts -/
/-- how often each of the first v numbers stands in the list -/
def cnt (v : Nat) (as : List Int) : List Int := (List.range v).map fun i : Nat => ((as.count (i : Int) : Nat) : Int)
theorem cnt_length (v : Nat) (as : List Int) : (cnt v as).length = v := by simp [cnt]
theorem cnt_get {v : Nat} {as : List Int} {i : Nat} (h : i < v) : (cnt v as)[i]? = some ((as.count (i : Int) : Nat) : Int) := by
  simp [cnt, h]
/-- all numbers of the list lie in 0 .. v - 1 -/
def InR (v : Nat) (as : List Int) : Prop := ∀ a ∈ as, 0 ≤ a ∧ a < (v : Int)

theorem sum_map_add {α : Type} (f g : α → Int) : ∀ l : List α, (l.map fun x => f x + g x).sum = (l.map f).sum + (l.map g).sum
  | [] => rfl
  | x :: r => by
    simp only [List.map_cons, List.sum_cons, sum_map_add f g r]
    omega
theorem sum_map_zero {α : Type} : ∀ l : List α, (l.map fun _ => (0 : Int)).sum = 0
  | [] => rfl
  | x :: r => by simp only [List.map_cons, List.sum_cons, sum_map_zero r]; rfl
/-- one number's share in a row of tests -/
theorem sum_range_one (v : Nat) (a : Int) : ((List.range v).map fun i : Nat => if a = (i : Int) then (1 : Int) else 0).sum = if 0 ≤ a ∧ a < (v : Int) then 1 else 0 := by
  induction v with
  | zero =>
    rw [if_neg (by omega)]
    rfl
  | succ v ih =>
    rw [List.range_succ, List.map_append, List.sum_append, ih]
    simp only [List.map_cons, List.map_nil, List.sum_cons, List.sum_nil]
    by_cases h : a = (v : Int)
    · rw [if_pos h, if_neg (by omega), if_pos (by omega)]; rfl
    · rw [if_neg h]
      by_cases h2 : 0 ≤ a ∧ a < (v : Int)
      · rw [if_pos h2, if_pos (by omega)]; rfl
      · rw [if_neg h2, if_neg (by omega)]; rfl
/-- the number of pairs that pass p, told apart by their first part -/
theorem sum_countP {v : Nat} (p : Int × Int → Bool) : ∀ {ps : List (Int × Int)}, (∀ q ∈ ps, 0 ≤ q.1 ∧ q.1 < (v : Int)) →
    ((List.range v).map fun i : Nat => ((ps.countP (fun q => decide (q.1 = (i : Int)) && p q) : Nat) : Int)).sum = ((ps.countP p : Nat) : Int)
  | [], _ => by
    simp only [List.countP_nil]
    exact sum_map_zero _
  | q :: r, h => by
    have ih := sum_countP p (ps := r) fun x hx => h x (List.mem_cons_of_mem _ hx)
    have hq := h q List.mem_cons_self
    have e : (fun i : Nat => (((q :: r).countP (fun q => decide (q.1 = (i : Int)) && p q) : Nat) : Int)) =
        fun i : Nat => ((r.countP (fun q => decide (q.1 = (i : Int)) && p q) : Nat) : Int) + (if p q = true then (if q.1 = (i : Int) then (1 : Int) else 0) else 0) := by
      funext i
      rw [List.countP_cons]
      by_cases h1 : q.1 = (i : Int) <;> by_cases h2 : p q = true <;> simp [h1, h2]
    rw [e, sum_map_add, ih, List.countP_cons]
    by_cases h2 : p q = true
    · simp only [h2, if_true]
      rw [sum_range_one, if_pos hq]
      omega
    · have h3 : p q = false := by simpa using h2
      simp only [h3, Bool.false_eq_true, if_false]
      rw [sum_map_zero]
      rfl
theorem cnt_sum {v : Nat} {as : List Int} (h : InR v as) : (cnt v as).sum = (as.length : Int) := by
  induction as with
  | nil =>
    show ((List.range v).map fun i : Nat => ((([] : List Int).count (i : Int) : Nat) : Int)).sum = 0
    simp only [List.count_nil]
    exact sum_map_zero _
  | cons a r ih =>
    have e : cnt v (a :: r) = (List.range v).map fun i : Nat => ((r.count (i : Int) : Nat) : Int) + (if a = (i : Int) then (1 : Int) else 0) := by
      unfold cnt
      refine congrArg (fun f => List.map f (List.range v)) ?_
      funext i
      rw [List.count_cons]
      by_cases h1 : a = (i : Int) <;> simp [h1]
    rw [e, sum_map_add]
    have ih' : ((List.range v).map fun i : Nat => ((r.count (i : Int) : Nat) : Int)).sum = (r.length : Int) := ih fun x hx => h x (List.mem_cons_of_mem _ hx)
    rw [ih', sum_range_one, if_pos (h a List.mem_cons_self)]
    simp

/-! ### least changes -/
/-- every bucket that moves leaves a variant that decreases and enters one that increases -/
def Good (as bs : List Int) : Prop := ∀ (i : Nat) (a b : Int), as[i]? = some a → bs[i]? = some b → a ≠ b → bs.count a < as.count a ∧ as.count b < bs.count b
theorem good_symm {as bs : List Int} (h : Good as bs) : Good bs as := fun i a b ha hb hn => by
  have q := h i b a hb ha hn.symm
  exact ⟨q.2, q.1⟩
/-- the same over the pairs -/
def GoodP (ps : List (Int × Int)) : Prop := ∀ p ∈ ps, p.1 ≠ p.2 → (ps.map Prod.snd).count p.1 < (ps.map Prod.fst).count p.1 ∧ (ps.map Prod.fst).count p.2 < (ps.map Prod.snd).count p.2
theorem map_fst_zip {as bs : List Int} (hl : as.length = bs.length) : (as.zip bs).map Prod.fst = as := List.map_fst_zip (Nat.le_of_eq hl)
theorem map_snd_zip {as bs : List Int} (hl : as.length = bs.length) : (as.zip bs).map Prod.snd = bs := List.map_snd_zip (Nat.le_of_eq hl.symm)
theorem good_iff {as bs : List Int} (hl : as.length = bs.length) : Good as bs ↔ GoodP (as.zip bs) := by
  unfold GoodP
  rw [map_fst_zip hl, map_snd_zip hl]
  constructor
  · intro h p hp hn
    obtain ⟨i, hi⟩ := List.mem_iff_getElem?.mp hp
    rw [List.getElem?_zip_eq_some] at hi
    exact h i p.1 p.2 hi.1 hi.2 hn
  · intro h i a b ha hb hn
    exact h (a, b) (List.mem_iff_getElem?.mpr ⟨i, List.getElem?_zip_eq_some.mpr ⟨ha, hb⟩⟩) hn
theorem goodP_perm {ps qs : List (Int × Int)} (h : ps.Perm qs) : GoodP ps ↔ GoodP qs := by
  unfold GoodP
  have e1 : ∀ x, (ps.map Prod.fst).count x = (qs.map Prod.fst).count x := fun x => (h.map Prod.fst).count_eq x
  have e2 : ∀ x, (ps.map Prod.snd).count x = (qs.map Prod.snd).count x := fun x => (h.map Prod.snd).count_eq x
  constructor
  · intro g p hp hn
    rw [← e1, ← e2, ← e1, ← e2]
    exact g p (h.mem_iff.mpr hp) hn
  · intro g p hp hn
    rw [e1, e2, e1, e2]
    exact g p (h.mem_iff.mp hp) hn
/-- renaming by a map that keeps the numbers below v apart -/
theorem count_map {s : Int → Int} {v : Nat} (inj : ∀ x y : Int, 0 ≤ x ∧ x < v → 0 ≤ y ∧ y < v → s x = s y → x = y) {x : Int} (hx : 0 ≤ x ∧ x < v) : ∀ {as : List Int}, InR v as → (as.map s).count (s x) = as.count x
  | [], _ => rfl
  | a :: r, h => by
    have ih := count_map inj hx (as := r) fun y hy => h y (List.mem_cons_of_mem _ hy)
    rw [List.map_cons, List.count_cons, List.count_cons, ih]
    have e : (s a == s x) = (a == x) := by
      by_cases q : a = x
      · rw [q]; simp
      · have q2 : s a ≠ s x := fun z => q (inj a x (h a List.mem_cons_self) hx z)
        rw [beq_eq_false_iff_ne.mpr q, beq_eq_false_iff_ne.mpr q2]
    rw [e]
theorem goodP_map {s : Int → Int} {v : Nat} (inj : ∀ x y : Int, 0 ≤ x ∧ x < v → 0 ≤ y ∧ y < v → s x = s y → x = y) {ps : List (Int × Int)} (h1 : InR v (ps.map Prod.fst)) (h2 : InR v (ps.map Prod.snd)) :
    GoodP (ps.map fun p => (s p.1, s p.2)) ↔ GoodP ps := by
  have m1 : (ps.map fun p => (s p.1, s p.2)).map Prod.fst = (ps.map Prod.fst).map s := by rw [List.map_map, List.map_map]; rfl
  have m2 : (ps.map fun p => (s p.1, s p.2)).map Prod.snd = (ps.map Prod.snd).map s := by rw [List.map_map, List.map_map]; rfl
  unfold GoodP
  rw [m1, m2]
  have in1 : ∀ p ∈ ps, 0 ≤ p.1 ∧ p.1 < (v : Int) := fun p hp => h1 _ (List.mem_map.mpr ⟨p, hp, rfl⟩)
  have in2 : ∀ p ∈ ps, 0 ≤ p.2 ∧ p.2 < (v : Int) := fun p hp => h2 _ (List.mem_map.mpr ⟨p, hp, rfl⟩)
  constructor
  · intro g p hp hn
    have q := g (s p.1, s p.2) (List.mem_map.mpr ⟨p, hp, rfl⟩) fun z => hn (inj _ _ (in1 p hp) (in2 p hp) z)
    simp only [count_map inj (in1 p hp) h1, count_map inj (in1 p hp) h2, count_map inj (in2 p hp) h1, count_map inj (in2 p hp) h2] at q
    exact q
  · intro g p hp hn
    obtain ⟨q, hq, rfl⟩ := List.mem_map.mp hp
    simp only [count_map inj (in1 q hq) h1, count_map inj (in1 q hq) h2, count_map inj (in2 q hq) h1, count_map inj (in2 q hq) h2]
    exact g q hq fun z => hn (by show s q.1 = s q.2; rw [z])

/-! ### churn and transfer -/
def churn (as bs : List Int) : Nat := (as.zip bs).countP fun p => decide (p.1 ≠ p.2)
def transfer (cs ds : List Int) : Int := ((cs.zip ds).map fun p => if p.1 - p.2 > 0 then p.1 - p.2 else 0).sum
/-- who leaves x, who enters x -/
def outs (ps : List (Int × Int)) (x : Int) : Nat := ps.countP fun p => decide (p.1 = x) && decide (p.1 ≠ p.2)
def ins (ps : List (Int × Int)) (x : Int) : Nat := ps.countP fun p => decide (p.2 = x) && decide (p.1 ≠ p.2)
theorem balance (x : Int) : ∀ ps : List (Int × Int), (ps.map Prod.fst).count x + ins ps x = (ps.map Prod.snd).count x + outs ps x
  | [] => rfl
  | p :: r => by
    have ih := balance x r
    unfold ins outs at ih ⊢
    rw [List.map_cons, List.map_cons, List.count_cons, List.count_cons, List.countP_cons, List.countP_cons]
    obtain ⟨a, b⟩ := p
    simp only at ih ⊢
    by_cases h1 : a = x <;> by_cases h2 : b = x <;> by_cases h3 : a = b <;> simp_all <;> omega
theorem sum_le {f g : Nat → Int} : ∀ {l : List Nat}, (∀ i ∈ l, f i ≤ g i) → (l.map f).sum ≤ (l.map g).sum
  | [], _ => Int.le_refl _
  | x :: r, h => by
    have ih := sum_le (l := r) fun i hi => h i (List.mem_cons_of_mem _ hi)
    have hx := h x List.mem_cons_self
    simp only [List.map_cons, List.sum_cons]
    omega
theorem sum_eq_iff {f g : Nat → Int} : ∀ {l : List Nat}, (∀ i ∈ l, f i ≤ g i) → ((l.map f).sum = (l.map g).sum ↔ ∀ i ∈ l, f i = g i)
  | [], _ => by simp
  | x :: r, h => by
    have h' : ∀ i ∈ r, f i ≤ g i := fun i hi => h i (List.mem_cons_of_mem _ hi)
    have ih := sum_eq_iff (l := r) h'
    have le := sum_le h'
    have hx := h x List.mem_cons_self
    simp only [List.map_cons, List.sum_cons, List.mem_cons, forall_eq_or_imp]
    rw [← ih]
    omega
theorem zip_map_range {α β : Type} (f : Nat → α) (g : Nat → β) : ∀ l : List Nat, (l.map f).zip (l.map g) = l.map fun i => (f i, g i)
  | [] => rfl
  | x :: r => by simp only [List.map_cons, List.zip_cons_cons, zip_map_range f g r]
theorem transfer_cnt (v : Nat) (as bs : List Int) : transfer (cnt v as) (cnt v bs) = ((List.range v).map fun i : Nat => if ((as.count (i : Int) : Nat) : Int) - ((bs.count (i : Int) : Nat) : Int) > 0 then ((as.count (i : Int) : Nat) : Int) - ((bs.count (i : Int) : Nat) : Int) else 0).sum := by
  unfold transfer cnt
  rw [zip_map_range, List.map_map]
  rfl
theorem good_churn {v : Nat} {as bs : List Int} (hl : as.length = bs.length) (ha : InR v as) (hb : InR v bs) : Good as bs ↔ (churn as bs : Int) = transfer (cnt v as) (cnt v bs) := by
  have m1 := map_fst_zip hl
  have m2 := map_snd_zip hl
  have bal : ∀ x, as.count x + ins (as.zip bs) x = bs.count x + outs (as.zip bs) x := fun x => by
    have q := balance x (as.zip bs)
    rw [m1, m2] at q
    exact q
  have in1 : ∀ p ∈ as.zip bs, 0 ≤ p.1 ∧ p.1 < (v : Int) := fun p hp => ha _ (by rw [← m1]; exact List.mem_map.mpr ⟨p, hp, rfl⟩)
  have in2 : ∀ p ∈ as.zip bs, 0 ≤ p.2 ∧ p.2 < (v : Int) := fun p hp => hb _ (by rw [← m2]; exact List.mem_map.mpr ⟨p, hp, rfl⟩)
  have hc : (churn as bs : Int) = ((List.range v).map fun i : Nat => ((outs (as.zip bs) (i : Int) : Nat) : Int)).sum := (sum_countP (fun p => decide (p.1 ≠ p.2)) in1).symm
  rw [hc, transfer_cnt, eq_comm, sum_eq_iff (fun i _ => by
    have q := bal (i : Int)
    show (if _ > 0 then _ else _) ≤ _
    split <;> omega), good_iff hl]
  unfold GoodP
  rw [m1, m2]
  constructor
  · intro g i hi
    have q := bal (i : Int)
    by_cases ho : outs (as.zip bs) (i : Int) = 0
    · rw [ho]
      show (if _ > 0 then _ else _) = _
      split <;> omega
    · by_cases hn : ins (as.zip bs) (i : Int) = 0
      · show (if _ > 0 then _ else _) = _
        split <;> omega
      · exfalso
        obtain ⟨p, hp, hpp⟩ := List.countP_pos_iff.mp (Nat.pos_of_ne_zero ho)
        obtain ⟨r, hr, hrr⟩ := List.countP_pos_iff.mp (Nat.pos_of_ne_zero hn)
        simp only [Bool.and_eq_true, decide_eq_true_eq] at hpp hrr
        have g1 := (g p hp hpp.2).1
        have g2 := (g r hr hrr.2).2
        rw [hpp.1] at g1
        rw [hrr.1] at g2
        omega
  · intro g p hp hn
    obtain ⟨a, b⟩ := p
    simp only at hn ⊢
    have i1 := in1 _ hp
    have i2 := in2 _ hp
    simp only at i1 i2
    have oa : 0 < outs (as.zip bs) a := List.countP_pos_iff.mpr ⟨(a, b), hp, by simp [hn]⟩
    have nb : 0 < ins (as.zip bs) b := List.countP_pos_iff.mpr ⟨(a, b), hp, by simp [hn]⟩
    have ea : ((a.toNat : Nat) : Int) = a := by omega
    have eb : ((b.toNat : Nat) : Int) = b := by omega
    have ga := g a.toNat (List.mem_range.mpr (by omega))
    have gb := g b.toNat (List.mem_range.mpr (by omega))
    rw [ea] at ga
    rw [eb] at gb
    have qa := bal a
    have qb := bal b
    have ga' : (if ((as.count a : Nat) : Int) - ((bs.count a : Nat) : Int) > 0 then ((as.count a : Nat) : Int) - ((bs.count a : Nat) : Int) else 0) = ((outs (as.zip bs) a : Nat) : Int) := ga
    have gb' : (if ((as.count b : Nat) : Int) - ((bs.count b : Nat) : Int) > 0 then ((as.count b : Nat) : Int) - ((bs.count b : Nat) : Int) else 0) = ((outs (as.zip bs) b : Nat) : Int) := gb
    constructor
    · split at ga' <;> omega
    · split at gb' <;> omega

/-! ### renaming -/
/-- the k-th number -/
def atk (xs : List Int) (k : Int) : Int := xs.getD k.toNat 0
/-- buckets and variants renamed -/
def rn (as ord nm : List Int) : List Int := ord.map fun k => atk nm (atk as k)
/-- the numbers below n, as ints -/
def upto (n : Nat) : List Int := (List.range n).map fun i : Nat => (i : Int)
theorem upto_length (n : Nat) : (upto n).length = n := by simp [upto]
theorem mem_upto {n : Nat} {k : Int} : k ∈ upto n ↔ 0 ≤ k ∧ k < (n : Int) := by
  unfold upto
  rw [List.mem_map]
  constructor
  · rintro ⟨i, hi, rfl⟩
    rw [List.mem_range] at hi
    omega
  · intro h
    exact ⟨k.toNat, List.mem_range.mpr (by omega), by omega⟩
theorem upto_succ (n : Nat) : upto (n + 1) = upto n ++ [(n : Int)] := by
  unfold upto
  rw [List.range_succ, List.map_append]
  rfl
theorem upto_get {n i : Nat} (h : i < n) : (upto n)[i]? = some (i : Int) := by
  unfold upto
  rw [List.getElem?_map, List.getElem?_range h]
  rfl
theorem upto_nodup (n : Nat) : (upto n).Nodup := by
  unfold upto
  exact List.Pairwise.map _ (fun a b h => by omega) List.nodup_range
def IsOrd (n : Nat) (ord : List Int) : Prop := ord.Perm (upto n)
theorem map_atk_upto (xs : List Int) : (upto xs.length).map (atk xs) = xs := by
  unfold upto
  rw [List.map_map]
  refine List.ext_getElem? fun i => ?_
  rw [List.getElem?_map]
  by_cases h : i < xs.length
  · rw [List.getElem?_range h, List.getElem?_eq_getElem h]
    show some (atk xs (i : Int)) = _
    unfold atk
    rw [Int.toNat_natCast, List.getD_eq_getElem?_getD, List.getElem?_eq_getElem h]
    rfl
  · rw [List.getElem?_eq_none (by simpa using h), List.getElem?_eq_none (by simpa using h)]
    rfl
theorem zip_map_map {α β γ : Type} (f : α → β) (g : α → γ) : ∀ l : List α, (l.map f).zip (l.map g) = l.map fun i => (f i, g i)
  | [] => rfl
  | x :: r => by simp only [List.map_cons, List.zip_cons_cons, zip_map_map f g r]
theorem atk_mem {xs : List Int} {k : Int} (h : 0 ≤ k ∧ k < (xs.length : Int)) : atk xs k ∈ xs := by
  unfold atk
  have h2 : k.toNat < xs.length := by omega
  rw [List.getD_eq_getElem?_getD, List.getElem?_eq_getElem h2]
  exact List.getElem_mem h2
theorem atk_get {xs : List Int} {k : Int} (h : 0 ≤ k ∧ k < (xs.length : Int)) : xs[k.toNat]? = some (atk xs k) := by
  unfold atk
  have h2 : k.toNat < xs.length := by omega
  rw [List.getD_eq_getElem?_getD, List.getElem?_eq_getElem h2]
  rfl
theorem ord_length {n : Nat} {ord : List Int} (h : IsOrd n ord) : ord.length = n := by rw [h.length_eq, upto_length]
theorem ord_mem {n : Nat} {ord : List Int} (h : IsOrd n ord) {k : Int} : k ∈ ord ↔ 0 ≤ k ∧ k < (n : Int) := by rw [h.mem_iff, mem_upto]
/-- an order's places hold different numbers -/
theorem ord_inj {v : Nat} {nm : List Int} (h : IsOrd v nm) : ∀ x y : Int, 0 ≤ x ∧ x < (v : Int) → 0 ≤ y ∧ y < (v : Int) → atk nm x = atk nm y → x = y := by
  intro x y hx hy e
  have hl := ord_length h
  have nd : nm.Nodup := h.nodup_iff.mpr (upto_nodup v)
  have gx := atk_get (xs := nm) (k := x) (by omega)
  have gy := atk_get (xs := nm) (k := y) (by omega)
  rw [e] at gx
  obtain ⟨h1, e1⟩ := List.getElem?_eq_some_iff.mp gx
  obtain ⟨h2, e2⟩ := List.getElem?_eq_some_iff.mp gy
  have q := (List.getElem_inj nd).mp (e1.trans e2.symm)
  omega
theorem rn_length (as ord nm : List Int) : (rn as ord nm).length = ord.length := by simp [rn]
theorem rn_inR {n v : Nat} {as ord nm : List Int} (hl : as.length = n) (ho : IsOrd n ord) (hn : IsOrd v nm) (ha : InR v as) : InR v (rn as ord nm) := by
  intro x hx
  obtain ⟨k, hk, rfl⟩ := List.mem_map.mp hx
  have q := (ord_mem ho).mp hk
  have m := ha _ (atk_mem (xs := as) (k := k) (by omega))
  have hln := ord_length hn
  exact (ord_mem hn).mp (atk_mem (by omega))
theorem rn_zip {n : Nat} {as bs ord nm : List Int} (hl : as.length = n) (hm : bs.length = n) (ho : IsOrd n ord) :
    ((rn as ord nm).zip (rn bs ord nm)).Perm ((as.zip bs).map fun p => (atk nm p.1, atk nm p.2)) := by
  unfold rn
  rw [zip_map_map]
  have e : as.zip bs = (upto n).map fun k => (atk as k, atk bs k) := by
    rw [← zip_map_map (atk as) (atk bs) (upto n)]
    have e1 := map_atk_upto as
    have e2 := map_atk_upto bs
    rw [hl] at e1
    rw [hm] at e2
    rw [e1, e2]
  rw [e, List.map_map]
  exact ho.map _
theorem good_rn {n v : Nat} {as bs ord nm : List Int} (hl : as.length = n) (hm : bs.length = n) (ho : IsOrd n ord) (hn : IsOrd v nm) (ha : InR v as) (hb : InR v bs) :
    Good (rn as ord nm) (rn bs ord nm) ↔ Good as bs := by
  have l : as.length = bs.length := by omega
  rw [good_iff (by rw [rn_length, rn_length]), good_iff l, goodP_perm (rn_zip hl hm ho)]
  exact goodP_map (ord_inj hn) (by rw [map_fst_zip l]; exact ha) (by rw [map_snd_zip l]; exact hb)
theorem count_rn {n v : Nat} {as ord nm : List Int} (hl : as.length = n) (ho : IsOrd n ord) (hn : IsOrd v nm) (ha : InR v as) {x : Int} (hx : 0 ≤ x ∧ x < (v : Int)) : (rn as ord nm).count (atk nm x) = as.count x := by
  have e : rn as ord nm = (ord.map (atk as)).map (atk nm) := by
    unfold rn
    rw [List.map_map]
    rfl
  have p : (ord.map (atk as)).Perm as := by
    have q := ho.map (atk as)
    have m := map_atk_upto as
    rw [hl] at m
    rw [m] at q
    exact q
  rw [e, (p.map (atk nm)).count_eq]
  exact count_map (ord_inj hn) hx ha
theorem cnt_rn {n v : Nat} {as bs ord nm : List Int} (hl : as.length = n) (hm : bs.length = n) (ho : IsOrd n ord) (hn : IsOrd v nm) (ha : InR v as) (hb : InR v bs) :
    ((cnt v (rn as ord nm)).zip (cnt v (rn bs ord nm))).Perm ((cnt v as).zip (cnt v bs)) := by
  have c : ∀ xs : List Int, cnt v xs = (upto v).map fun x => ((xs.count x : Nat) : Int) := fun xs => by
    unfold cnt upto
    rw [List.map_map]
    rfl
  rw [c, c, c, c, zip_map_map, zip_map_map]
  have p := hn.map fun x => (((rn as ord nm).count x : Nat) : Int) 
  have p2 : ((upto v).map fun x => ((((rn as ord nm).count x : Nat) : Int), (((rn bs ord nm).count x : Nat) : Int))).Perm (nm.map fun x => ((((rn as ord nm).count x : Nat) : Int), (((rn bs ord nm).count x : Nat) : Int))) := (hn.map _).symm
  refine p2.trans ?_
  have en : nm = (upto v).map (atk nm) := by
    have m := map_atk_upto nm
    rw [ord_length hn] at m
    exact m.symm
  have e : (nm.map fun x => ((((rn as ord nm).count x : Nat) : Int), (((rn bs ord nm).count x : Nat) : Int))) = (upto v).map fun x => (((as.count x : Nat) : Int), ((bs.count x : Nat) : Int)) := by
    conv => lhs; arg 2; rw [en]
    rw [List.map_map]
    refine List.map_congr_left fun x hx => ?_
    have q := mem_upto.mp hx
    show ((((rn as ord nm).count (atk nm x) : Nat) : Int), (((rn bs ord nm).count (atk nm x) : Nat) : Int)) = _
    rw [count_rn hl ho hn ha q, count_rn hm ho hn hb q]
  rw [e]

/-! ### the number of least changes, as the program reckons it -/
def lvg (p : Int × Int) : Int := if p.1 - p.2 > 0 then p.1 - p.2 else 0
def ent (p : Int × Int) : Int := if p.2 - p.1 > 0 then p.2 - p.1 else 0
def waysF (fac : Int → Int) (comb : Int → Int → Int) (ps : List (Int × Int)) : Int :=
  ps.foldl (fun t p => t * comb p.1 (lvg p)) ((ps.map ent).foldl (fun t m => t / fac m) (fac (ps.map ent).sum))
theorem foldl_perm {α : Type} {f : Int → α → Int} (hf : ∀ t x y, f (f t x) y = f (f t y) x) {l m : List α} (h : l.Perm m) : ∀ t, l.foldl f t = m.foldl f t := by
  induction h with
  | nil => intro t; rfl
  | cons x _ ih => intro t; exact ih (f t x)
  | swap x y l =>
    intro t
    show l.foldl f (f (f t y) x) = l.foldl f (f (f t x) y)
    rw [hf]
  | trans _ _ ih1 ih2 => intro t; exact (ih1 t).trans (ih2 t)
theorem sum_perm {l m : List Int} (h : l.Perm m) : l.sum = m.sum := by
  induction h with
  | nil => rfl
  | cons x _ ih => rw [List.sum_cons, List.sum_cons, ih]
  | swap x y l =>
    rw [List.sum_cons, List.sum_cons, List.sum_cons, List.sum_cons]
    omega
  | trans _ _ ih1 ih2 => exact ih1.trans ih2
theorem ways_perm {fac : Int → Int} {comb : Int → Int → Int} (hf : ∀ m, 0 ≤ fac m) {ps qs : List (Int × Int)} (h : ps.Perm qs) : waysF fac comb ps = waysF fac comb qs := by
  unfold waysF
  have he := h.map ent
  rw [sum_perm he, foldl_perm (fun t x y => by
    show t / fac x / fac y = t / fac y / fac x
    rw [Int.ediv_ediv_of_nonneg (hf x), Int.ediv_ediv_of_nonneg (hf y), Int.mul_comm]) he]
  exact foldl_perm (fun t x y => by
    show t * comb x.1 (lvg x) * comb y.1 (lvg y) = t * comb y.1 (lvg y) * comb x.1 (lvg x)
    rw [Int.mul_assoc, Int.mul_comm (comb x.1 _), ← Int.mul_assoc]) h _
end K17
/-! law k17: rules that the layer lacks: tuples whose object has no dict, t.count, enumerate of a tuple, math.factorial, math.comb -/
namespace K17
open PySem PySem.Spec PyProof.Rows L2
/-- a tuple without a dict of its own -/
def TupD (H : Hp) (a : Addr) (xs : List V) : Prop := ∃ o : Obj, o.dict = Option.none ∧ H a = some (.frz o (.tup xs))
theorem TupD.sq {K : PySem.W.Frag} {H : Hp} {a : Addr} {xs : List V} (t : TupD H a xs) : SqT K H a xs := by
  obtain ⟨o, _, h⟩ := t
  exact .inl (.inr ⟨o, h⟩)
section
variable {X : Cx}
/-- tuple(list), the new tuple's object told -/
theorem call_tuple_ofD : CallR X (.type "tuple") (fun xs H Q => ∃ p ys, xs = [.ref p] ∧ SqL X.K H p ys ∧ ∀ l o, H l = Option.none → o.dict = Option.none → Q (.ref l) (upd H l (.frz o (.tup ys)))) := by
  intro pins s σ H xs us Q I r h
  obtain ⟨p, ys, rfl, hq, q⟩ := h
  obtain ⟨u, rfl, rx⟩ := vals1 r
  cases rx
  obtain ⟨its, r', pl, hz⟩ := I.list hq
  have hlen := r'.length
  refine call_tuple_list pl.isList (fun h' kp => ?_) (by simp only [List.size_toArray] <;> omega)
  have I1 : Inv X pins σ H { s with heap := h' } := I.kept (t' := s.toks) kp
  have I2 : Inv X pins σ (upd H h'.objs.size (.frz { cls := .type "tuple", data := .seq its.toArray } (.tup ys))) { s with heap := h'.push { cls := .type "tuple", data := .seq its.toArray } } :=
    I1.laid (t' := s.toks) (fun b o e => Heap.get?_push_of_some _ e) (Nat.le_refl _) (show ObjOk X.prog X.w _ _ _ (.frz { cls := .type "tuple", data := .seq its.toArray } (.tup ys)) from ⟨Heap.get?_push_size _ rfl, hz, its, r', IsTup.new _ _⟩)
  exact ⟨.ref h'.objs.size, _, I2, rfl, q _ _ (I1.hok.fresh (Nat.le_refl _)) rfl⟩
/-- t.count(n), t a tuple of ints -/
def rCntT (K : PySem.W.Frag) : V → List V → Hp → VK → Prop := fun x xs H Q => ∃ (p : Addr) (ns : List Int) (k : Int), x = .ref p ∧ xs = [.int k] ∧ SqT K H p (ns.map V.int) ∧ Q (.int (ns.count k : Nat)) H
theorem mt_tcount : MtR X "tuple.count" (rCntT X.K) := by
  intro pins s σ H x xs v us Q I rx rxs h
  obtain ⟨p, ns, k, rfl, rfl, hs, q⟩ := h
  cases rx
  obtain ⟨u, rfl, ru⟩ := rxs.one
  obtain ⟨t, rfl⟩ := ru
  obtain ⟨its, rv, ⟨⟨cls, dd, data, sl⟩, ho, hc, n, hd⟩, hlen⟩ := I.tuple hs
  simp only at hc hd
  subst hc hd
  have hi := ints_of_vals rv
  refine call_meets PySem.F.slot_tuple_count ⟨_, ho, rfl⟩ PySem.F.entry_tuple_count (PySem.F.args_tuple_count_2 _ _)
    (SeqAt.tuple_countAt p its.toArray n dd sl (.int k t) (eqk k)) ⟨ho, fun y hy => (eqk_gives hi y (by simpa using hy)).at _ _, ?_⟩
  have ec : its.toArray.toList.countP (eqk k) = ns.count k := eqk_count hi
  refine ⟨.int (ns.count k : Nat), H, I.tok _, ⟨s.toks, ?_⟩, q⟩
  show Value.int ((its.toArray.toList.countP (eqk k) : Nat) : Int) s.toks = Value.int ((ns.count k : Nat) : Int) s.toks
  rw [ec]
/-- o.m(e, ..), o a tuple of the program's own making -/
def tTM (r : V → List V → Hp → VK → Prop) (to : TE) (t : TA) : TE := fun σ H Q => to σ H fun x H1 => (∃ p xs, x = .ref p ∧ TupD H1 p xs) ∧ t σ H1 fun vs H2 => r x vs H2 Q
theorem pe_tm {name : Str} {id : String} {o e : Expr} {es : List Expr} {apos cpos : Pos} {to : TE} {t : TA} {r : V → List V → Hp → VK → Prop} (slot : Slot "tuple" name id) (hty : typeOf (.builtin id) = pure (.type "method_descriptor")) (hm : MtR X id r) (ho : PE X o to) (ha : PA X (e :: es) t)
    (hbase : attributeBase o name X.env (eval o X.env) = eval o X.env := by rfl)
    (hfew : ((backTo cpos (starEach (e :: es) X.env)).all (fun x => !x.1) && (backToKw cpos (keywordEach [] X.env)).all (fun x => x.1.isSome)
      && decide ((e :: es).length + ([] : List Keyword).length + (if ([] : List Keyword).isEmpty then 0 else 1) < 30)) = true := by rfl)
    (hline : (apos.endLine == cpos.line) = true := by rfl) (hs : starEach (e :: es) X.env = (false, eval e X.env) :: starEach es X.env := by rfl) (hplain : (backTo cpos (starEach es X.env)).any (·.1) = false := by rfl) :
    PE X (.Call (.Attribute o name apos) (e :: es) [] cpos) (tTM r to t) := by
  refine ⟨fun pins s σ H Q I h => ?_⟩
  refine wpAny_Call_method_late hbase hfew hline rfl (thn (ho.run pins s σ H _ I h) fun v s1 ⟨x, H1, I1, r1, ty, q1⟩ => ?_)
  obtain ⟨p, xs, rfl, ob, hdn, hH⟩ := ty
  cases r1
  obtain ⟨hob, _, its, rv, o2, e2, hc2, _⟩ := (show ObjOk X.prog X.w H1 s1.heap p (.frz ob (.tup xs)) from I1.hok p _ hH)
  rw [hob] at e2
  cases e2
  refine ⟨"tuple", id, PySem.F.plainAttrs_tuple, slot, hty, ⟨ob, hob, hc2⟩, fun a e => ?_, ?_⟩
  · cases e
    exact ⟨ob, hob, hdn⟩
  have hA := ha.run cpos pins s1 σ H1 _ I1 q1
  rw [hs] at hA ⊢
  refine Calls.callWith_builtin (by show (false || (backTo cpos (starEach es X.env)).any (·.1)) = false; rw [hplain] <;> rfl) (Calls.evalArgs_plain ?_)
  exact thn hA fun us s2 ⟨vs, H2, I2, r2, q2⟩ => hm pins s2 σ H2 (.ref p) vs (.ref p) us Q I2 (show Value.ref p = Value.ref p from rfl) r2 q2
/-- math.factorial of a small number -/
def facZ (z : Int) : Int := ((Builtin.Math.factorialNat z.toNat : Nat) : Int)
theorem cr_fac : CallR X (.builtin "math.factorial") (fun xs H Q => ∃ i : Int, xs = [.int i] ∧ 0 ≤ i ∧ i ≤ 100 ∧ Q (.int (facZ i)) H) := by
  intro pins s σ H vs us Q I r h
  obtain ⟨i, rfl, h0, h1, q⟩ := h
  obtain ⟨u, rfl, ru⟩ := vals1 r
  obtain ⟨t, rfl⟩ := ru
  have hs : ((((Builtin.Math.factorialNat i.toNat : Nat) : Int)).natAbs.log2 < bitsLine) := by
    rw [Int.natAbs_natCast]
    exact PySem.W.mc_size (k := i.toNat) (PySem.W.mc_fac_le i.toNat (by omega)) (by omega)
  exact PySem.W.mg_factorial (by show ¬ i > 2 ^ 63 - 1; omega) (by omega) (by show ¬ i > 20000; omega) hs ⟨.int (facZ i), H, I.tok _, ⟨_, rfl⟩, q⟩
/-- math.comb of small numbers -/
theorem cr_comb : CallR X (.builtin "math.comb") (fun xs H Q => ∃ i j : Int, xs = [.int i, .int j] ∧ 0 ≤ i ∧ i ≤ 100 ∧ 0 ≤ j ∧ Q (.int (PySem.W.mcComb i j)) H) := by
  intro pins s σ H vs us Q I r h
  obtain ⟨i, j, rfl, h0, h1, h2, q⟩ := h
  obtain ⟨t, u, rfl⟩ := Vals.int2 r
  have g := PySem.W.mc_gives_comb (a := i) (b := j) t u h0 h2 (by omega) (.inr (by omega))
  exact call_function_meets PySem.W.MGF.kind_comb PySem.W.MGF.plain_comb PySem.W.MGF.entry_comb (PySem.W.MGF.args_comb _ _) g.meets ⟨.int (PySem.W.mcComb i j), H, I.tok _, ⟨_, rfl⟩, q⟩
end

/-! ### enumerate(tuple) -/
set_option maxHeartbeats 8000000 in
theorem meets_enum_newT (l : Addr) (items : Array Value) :
    Meets (Builtin.«enumerate.__new__» ⟨[.type "enumerate", .ref l], []⟩) (fun _ R s => s.heap.IsTuple l items ∧
      R (.ok (.ret (.ref (s.heap.push { cls := .type "tuple_iterator", data := .fields #[.ref l, .int 0 0] }).objs.size)))
        { s with heap := (s.heap.push { cls := .type "tuple_iterator", data := .fields #[.ref l, .int 0 0] }).push { cls := .type "enumerate", data := .fields #[.none, .bool false, .ref s.heap.objs.size, rawInt 0, .none, .none] } }) :=
  .of_wp fun prog w A R s h => by
    obtain ⟨hp, g, d, tk, os⟩ := s; obtain ⟨hT, h⟩ := h
    have hsub := sub_enumerate
    have q1 : ∀ {A' : Around} {E : Value → Shared → Prop} {Q : Value → Shared → Prop}, Q (.ref hp.objs.size) ⟨hp.push { cls := .type "tuple_iterator", data := .fields #[.ref l, .int 0 0] }, g, d, tk, os⟩ → wpAny (model prog w) A' (pyIter (.ref l)) Q E ⟨hp, g, d, tk, os⟩ :=
      fun q => (begins_tuple l items).iter prog w _ _ ⟨hp, g, d, tk, os⟩ _ hT q
    wp_walk using q1
    refine wpAny_stack_any fun st => wpAny_pure ?_
    split
    · rename_i c _ _ _ _ _
      cases (c == Value.type "enumerate")
      · wp_walk using q1
        exact ⟨_, rfl, h⟩
      · wp_walk using q1
        exact ⟨_, rfl, h⟩
    · wp_walk using q1
      exact ⟨_, rfl, h⟩
section
variable {prog : Program} {w : World} {A : Around} {E : Value → Shared → Prop} {s : Shared}
theorem call_enum_tuple {l : Addr} {items : Array Value} {Q : Value → Shared → Prop} (hL : s.heap.IsTuple l items)
    (h : ∀ h', IsEnum h' (s.heap.objs.size + 1) s.heap.objs.size 0 .none → h'.IsTupleIter s.heap.objs.size l 0 → h'.objs.size = s.heap.objs.size + 2 →
      (∀ b o, s.heap.get? b = some o → h'.get? b = some o) → Q (.ref (s.heap.objs.size + 1)) { s with heap := h' }) :
    wpAny (model prog w) A (call (.type "enumerate") [.ref l]) Q E s := by
  refine callType_new F.called_enumerate (by decide) (F.typeCall_enumerate_1 _) (F.newCall_enumerate_1 _) (fun obj => F.args_object_init_2 obj _) F.entry_enumerate_new
    (meets_enum_newT l items) ⟨hL, ?_⟩
  have hz : (s.heap.push { cls := .type "tuple_iterator", data := .fields #[.ref l, .int 0 0] }).objs.size = s.heap.objs.size + 1 := Heap.size_push ..
  show _ ∧ _
  rw [hz]
  have he : IsEnum ((s.heap.push { cls := .type "tuple_iterator", data := .fields #[.ref l, .int 0 0] }).push
      { cls := .type "enumerate", data := .fields #[.none, .bool false, .ref s.heap.objs.size, rawInt 0, .none, .none] }) (s.heap.objs.size + 1) s.heap.objs.size 0 .none := by
    have := Heap.get?_push_size (s.heap.push { cls := .type "tuple_iterator", data := .fields #[.ref l, .int 0 0] })
      (o := { cls := .type "enumerate", data := .fields #[.none, .bool false, .ref s.heap.objs.size, rawInt 0, .none, .none] }) rfl
    rw [hz] at this; exact this
  refine ⟨⟨_, he, rfl⟩, h _ he ⟨_, Heap.get?_push_of_some _ (Heap.get?_push_size _ rfl), rfl, rfl⟩ (by rw [Heap.size_push, hz]) fun b o x => Heap.get?_push_of_some _ (Heap.get?_push_of_some _ x)⟩
end
theorem enum_endT {prog : Program} {w : World} {A : Around} {E : Value → Shared → Prop} {s : Shared} {e it l : Addr} {i : Nat} {items : Array Value} {old : Value} {Q : Option Value → Shared → Prop} (hh : A.handled = Option.none)
    (he : IsEnum s.heap e it i old) (hit : s.heap.IsTupleIter it l i) (hl : s.heap.IsTuple l items) (hx : items[i]? = Option.none)
    (hQ : ∀ h', Heap.ExtBut it s.heap h' → Q Option.none { s with heap := h' }) : wpAny (model prog w) A (pyNext (.ref e)) Q E s := by
  have hT : s.TypeIs (.ref e) "enumerate" := ⟨_, he, rfl⟩
  unfold pyNext
  refine wpAny_bind (wpAny_attempt (wpAny_callSpecial?_slot (name := Str.ofString "__next__") hT F.slot_enumerate_next
    (wpAny_call_entry F.slot_enumerate_next hT F.entry_enumerate_next ?_ (F.args_enumerate_next_1 _))))
  show wpAny _ _ (field (.ref e) 2 >>= _) _ _ _
  refine wpAny_bind (wpAny_field he rfl (x := .ref it) rfl ?_)
  refine wpAny_bind (wpAny_nextOf_tuple_end hh hit hl hx fun h' x he' hx' => ?_)
  obtain ⟨o, ho, hc⟩ := hx'
  refine wpAny_bind (wpAny_isInstance (T := "StopIteration") (b := true) ⟨o, ho, hc⟩ isSubtype_stop ?_)
  exact wpAny_pure (hQ _ he')
/-- the tuple at a as it stands at each turn, each item in a new pair -/
def IteT (K : PySem.W.Frag) (a : Addr) : It :=
  ⟨fun i H => ∃ (xs : List V) (x : V), SqT K H a xs ∧ xs[i]? = some x, fun i H v H' => ∃ T x, v = .ref T ∧ H T = none ∧ H' = upd H T (.tup [.int (i : Nat), x]) ∧ ∀ xs, SqT K H a xs → xs[i]? = some x, fun i H => ∃ xs : List V, SqT K H a xs ∧ xs.length ≤ i⟩
theorem turn_enumT {P : Program} {w : World} {K : PySem.W.Frag} {elts : List Expr} {kk : Nat} {tpos : Pos} (a e it : Addr) :
    Turn P w K (.Tuple elts kk tpos) (IteT K a) [e, it] e (fun i h => (∃ old, IsEnum h e it ((i : Nat) : Int) old) ∧ h.IsTupleIter it a i ∧ e ≠ it ∧ a ≠ it ∧ e ≠ a) where
  mem := by simp
  obj := fun i h st b hb => by
    obtain ⟨⟨old, he⟩, ⟨o, ho, hc, hd⟩, _⟩ := st
    have e' : b = e ∨ b = it := by simpa using hb
    rcases e' with z | z
    · rw [z]; exact ⟨_, he, fun v q => nomatch q⟩
    · rw [z]; exact ⟨o, ho, fun v q => by rw [hd] at q; cases q⟩
  keep := fun i h h' st k => let ⟨⟨old, he⟩, hi, hne⟩ := st; ⟨⟨old, k e (by simp) _ he⟩, hi.at fun o q => k it (by simp) o q, hne⟩
  item := by
    intro X hP hw hK hc i pins s σ H E I hf st hg
    subst hP hw hK
    obtain ⟨⟨old, he⟩, hit, hne, hai, hea⟩ := st
    obtain ⟨xs, x, hq, hx⟩ := hg
    obtain ⟨its, rv, p, hz⟩ := I.tuple hq
    obtain ⟨u, hu, ru⟩ := rv.get hx
    have hel : e < s.heap.objs.size := Heap.lt_size he
    have hil : it < s.heap.objs.size := by obtain ⟨_, q, _⟩ := hit; exact Heap.lt_size q
    have hhd : X.A.in1.handled = Option.none := I.ok.hd hc
    have D := Draws.tuple (prog := X.prog) (w := X.w) (A := X.A.in1) hhd it a hai its.toArray
    have hlt : i < its.toArray.size := by
      have q := (List.getElem?_eq_some_iff.mp hu).1
      simpa using q
    refine wpAny_pyNext_enum_itemD D he ⟨hit, p⟩ hlt hne (by simp [hne, hea]) fun y h' tk hy ho hit' hT hsz hk => ?_
    have ey : y = u := by
      have z : its[i]? = some y := by simpa using hy
      rw [hu] at z
      exact (Option.some.inj z).symm
    subst ey
    refine ⟨_, rfl, wpAny_letOwnedTupleGo_enum (s := { s with heap := h', toks := tk + 1 }) ho fun h'' he' sb => ?_⟩
    have hT2 : h''.get? s.heap.objs.size = some { cls := .type "tuple", data := .seq #[.int i tk, y] } := (sb.2 _ (Nat.ne_of_gt hel)).trans hT
    have new : ObjOk X.prog X.w (upd H s.heap.objs.size (.tup [.int (i : Nat), x])) h'' s.heap.objs.size (.tup [.int (i : Nat), x]) :=
      ⟨by show 2 ≤ sizeLine; decide, [.int i tk, y], .cons ⟨_, rfl⟩ (.cons ru .nil), ⟨_, hT2, rfl, _, rfl⟩⟩
    have I1 : Inv X pins σ (upd H s.heap.objs.size (.tup [.int (i : Nat), x])) { s with heap := h'', toks := tk + 1 } :=
      I.turnedNew (ch := [e, it]) (fun b ob hb q => (sb.2 b (fun z => hb (by simp [z]))).trans (hk b ob (fun z => hb (by simp [z])) (fun z => hb (by simp [z])) q)) hf (Nat.le_refl _) new
    refine ⟨.ref s.heap.objs.size, _, I1, rfl, ⟨_, x, rfl, I.hok.fresh (Nat.le_refl _), rfl, fun ys hy => by rw [I.tuple_inj hy hq]; exact hx⟩, ⟨⟨y, ?_⟩, hit'.1.at fun o q => (sb.2 it (Ne.symm hne)).trans q, hne, hai, hea⟩, fun b hb => ?_⟩
    · have e1 : ((i + 1 : Nat) : Int) = (i : Int) + 1 := by omega
      rw [e1]; exact he'
    · have hb' : b < s.heap.objs.size := by
        have e' : b = e ∨ b = it := by simpa using hb
        rcases e' with z | z
        · rw [z]; exact hel
        · rw [z]; exact hil
      rw [upd_ne (Nat.ne_of_lt hb')]
      exact (hf b hb).1
  done := by
    intro X hP hw hK hc i pins s σ H E I hf st hg
    subst hP hw hK
    obtain ⟨⟨old, he⟩, hit, hne, hai, hea⟩ := st
    obtain ⟨xs, hq, hx⟩ := hg
    obtain ⟨its, rv, p, hz⟩ := I.tuple hq
    obtain ⟨f0, f1, f2, f3, f4, f5⟩ := hf it (by simp)
    have hl := rv.length
    exact enum_endT (I.ok.hd hc) he hit p (by simp; omega) fun h' eb => ⟨rfl, I.turned (t' := s.toks) (fun b o hb q => eb b o hb q) f0 f1 f3 f4 f5⟩
  self := fun A i s Q E st h => let ⟨⟨_, he⟩, _⟩ := st; wpAny_pyIter_enum he h
def iEnumT (K : PySem.W.Frag) (ta : TA) : TI := fun σ H R => ta σ H fun vs H1 => ∃ a xs, vs = [.ref a] ∧ SqT K H1 a xs ∧ R (IteT K a) H1
theorem pi_enumT {X : Cx} {e : Expr} {ta : TA} {p pos tpos : Pos} {elts : List Expr} {kk : Nat} (hg : Gl X "enumerate") (hm : X.mg "enumerate" = Option.none) (ha : PA X [e] ta) (hs : starEach [e] X.env = [(false, eval e X.env)] := by rfl) :
    PI X (.Tuple elts kk tpos) (.Call (.Name "enumerate" p) [e] [] pos) (iEnumT X.K ta) := by
  refine ⟨fun pins s σ H R I h => ?_⟩
  refine Call_ (ld_blt I hg hm boot_enumerate (PyProof.Rows.callWith_type1 (thn (ha.run pos pins s σ H _ I h) fun us s1 ⟨vs, H1, I1, r1, q1⟩ => ?_) hs rfl))
  obtain ⟨a, xs, ex, hq, q⟩ := q1
  subst ex
  cases r1 with
  | cons r rr =>
    cases rr
    cases r
    obtain ⟨its, rv, p', hz⟩ := I1.tuple hq
    obtain ⟨ob, hob, _⟩ := id p'
    have hal : a < s1.heap.objs.size := Heap.lt_size hob
    refine call_enum_tuple (show s1.heap.IsTuple a its.toArray from p') fun h' he hit hsz hk => wpAny_pyIter_enum he ?_
    have I2 : Inv X pins σ H1 { s1 with heap := h' } := I1.kept (t' := s1.toks) hk
    refine ⟨s1.heap.objs.size + 1, [s1.heap.objs.size + 1, s1.heap.objs.size], _, _, H1, rfl, I2, turn_enumT a (s1.heap.objs.size + 1) s1.heap.objs.size, ⟨⟨.none, he⟩, hit, Nat.succ_ne_self _, Nat.ne_of_lt hal, Ne.symm (Nat.ne_of_lt (Nat.lt_succ_of_lt hal))⟩, fun b hb => ?_, q⟩
    have e' : b = s1.heap.objs.size + 1 ∨ b = s1.heap.objs.size := by simpa using hb
    have hle : s1.heap.objs.size ≤ b := by
      rcases e' with z | z
      · rw [z]; exact Nat.le_add_right _ _
      · rw [z]; exact Nat.le_refl _
    exact I1.fpOk hle (I1.hok.fresh hle)
theorem walk_enumT {K : PySem.W.Frag} {a : Addr} {xs : List V} : Walk (IteT K a) xs.length (fun H => SqT K H a xs) (YPair (fun i => some (.int (i : Nat))) (fun i => xs[i]?)) := by
  refine ⟨fun i _ hi q => ⟨xs, xs[i], q, by simp [hi]⟩, fun _ q => ⟨xs, q, Nat.le_refl _⟩, fun i H v H' _ q y => ?_⟩
  obtain ⟨T, x, h1, h2, h3, h4⟩ := y
  exact ⟨T, .int (i : Nat), x, h1, h2, h3, rfl, h4 xs q⟩
theorem walk_zipT {K : PySem.W.Frag} {a b : Addr} {xs ys : List V} {n : Nat} (hn : n = min xs.length ys.length) : Walk (RZ.ItzT K a b) n (fun H => SqT K H a xs ∧ SqT K H b ys) (YPair (fun i => xs[i]?) (fun i => ys[i]?)) := by
  subst hn
  refine ⟨fun i _ hi q => ?_, fun _ q => ⟨xs, ys, q.1, q.2, by omega⟩, fun i H v H' _ q y => ?_⟩
  · have h1 : i < xs.length := by omega
    have h2 : i < ys.length := by omega
    exact ⟨xs, ys, xs[i], ys[i], q.1, q.2, by simp [h1], by simp [h2]⟩
  · obtain ⟨T, x, z, h1, h2, h3, h4, h5⟩ := y
    exact ⟨T, x, z, h1, h2, h3, h4 xs q.1, h5 ys q.2⟩
/-! ### sum of a tuple of ints -/
theorem sum_rawT {prog : Program} {w : World} {A : Around} {E : Value → Shared → Prop} {s : Shared} {l : Addr} {its : List Value} {ns : List Int} {Q : Value → Shared → Prop} (hh : A.handled = Option.none) (hl : s.heap.IsTuple l its.toArray) (hi : IntsAre its ns)
    (h : ∀ h' tk t', (∀ b o, s.heap.get? b = some o → h'.get? b = some o) → Q (.int ns.sum t') { s with heap := h', toks := tk }) : wpAny (model prog w) A (call (.builtin "sum") [.ref l]) Q E s := by
  obtain ⟨xs, e⟩ := hi.allInts.items
  have hn : numsOf (intItems xs).toList = ns := by rw [← e]; exact hi.numsOf
  rw [nums_intItems] at hn
  rw [e] at hl
  refine PySem.W.ktm_sumG hh hl fun h' tk t' hk => ?_
  have := h h' tk t' hk
  rw [preSum_eq, List.take_of_length_le (by simp), hn]; exact this
theorem cr_sumT {X : Cx} (hc : X.calm = true) : CallR X (.builtin "sum") (fun vs H Q => ∃ (a : Addr) (ns : List Int), vs = [V.ref a] ∧ SqT X.K H a (ns.map V.int) ∧ Q (.int ns.sum) H) := by
  intro pins s σ H vs us Q I r h
  obtain ⟨a, ns, rfl, hs, q⟩ := h
  obtain ⟨its, rv, hl, _⟩ := I.tuple hs
  rw [Vals.ref1 r]
  exact sum_rawT (I.ok.hd hc) hl rv.ints fun h' tk t' hk => ⟨.int _, H, I.kept hk, ⟨_, rfl⟩, q⟩
end K17
/-! law k17: the text by places, what a caller knows of a def -/
namespace K17
open PySem PySem.Spec PyProof.Rows L2
def topS (i : Nat) : Stmt := PySem.Challenge.pw_leastmoved_k17_whole_back_and_renamed.main.body.getD i (.Pass ⟨0, 0, 0, 0⟩)
abbrev sWhole : Stmt := topS 5
abbrev sBetween : Stmt := topS 6
abbrev sIsAlloc : Stmt := topS 7
abbrev sIsAssign : Stmt := topS 9
abbrev sCounts : Stmt := topS 10
abbrev sInteger : Stmt := topS 14
abbrev sChkVar : Stmt := topS 15
abbrev sSomeAlloc : Stmt := topS 16
abbrev sChkAlloc : Stmt := topS 17
abbrev sChkAssign : Stmt := topS 18
abbrev sNMove : Stmt := topS 19
abbrev sFirstN : Stmt := topS 20
abbrev sNeedless : Stmt := topS 21
abbrev sMinimal : Stmt := topS 22
abbrev sInit : Stmt := inClass (topS 23) 0
abbrev sOptions : Stmt := inClass (topS 23) 1
abbrev sTake : Stmt := inClass (topS 23) 2
abbrev sMovesOf : Stmt := topS 24
abbrev sCompleted : Stmt := topS 25
abbrev sFirst : Stmt := topS 26
abbrev sWays : Stmt := topS 28
abbrev sCount : Stmt := topS 29
abbrev sStream : Stmt := topS 31
abbrev sNext : Stmt := topS 32
abbrev sLCounts : Stmt := topS 35
abbrev sLTransfer : Stmt := topS 36
abbrev sLChurn : Stmt := topS 37
abbrev sLAssign : Stmt := topS 38
abbrev sLOrder : Stmt := topS 44
abbrev sLRenamed : Stmt := topS 45
abbrev sLaw : Stmt := topS 46
/-- the built-in names that the text leaves alone -/
structure Blt (mg : Str → Option Value) : Prop where
  isinstance : mg "isinstance" = Option.none
  int : mg "int" = Option.none
  bool : mg "bool" = Option.none
  tuple : mg "tuple" = Option.none
  list : mg "list" = Option.none
  len : mg "len" = Option.none
  all : mg "all" = Option.none
  sum : mg "sum" = Option.none
  range : mg "range" = Option.none
  enumerate : mg "enumerate" = Option.none
  zip : mg "zip" = Option.none
  sorted : mg "sorted" = Option.none
  max : mg "max" = Option.none
  abs : mg "abs" = Option.none
/-- the module's constants, and what it imports -/
structure Cst (mg : Str → Option Value) : Prop where
  mv : ∃ t, mg "MOST_VARIANTS" = some (.int 5 t)
  mb : ∃ t, mg "MOST_BUCKETS" = some (.int 20 t)
  fac : mg "factorial" = some (.builtin "math.factorial")
  comb : mg "comb" = some (.builtin "math.comb")
/-- a def as its callers know it -/
def Cal (P : Program) (w : World) (K : PySem.W.Frag) (mg : Str → Option Value) (base : Heap) (k : Nat) (x : Str) (ps : List Str) (sp : Sp) : Prop :=
  ∃ (f : Addr) (fd : FuncData), FnOk P w K mg base CX0 k f fd ps sp ∧ mg x = some (.ref f) ∧ PySem.W.keepIn K (.ref f) = true ∧ Binds K fd ps []
/-- a def of the top -/
def DefAt (K : PySem.W.Frag) (mg : Str → Option Value) (x : Str) (st : Stmt) (ps : List Str) (f : Addr) (fd : FuncData) : Prop :=
  Fun K x x st f fd ∧ mg x = some (.ref f) ∧ Binds K fd ps []
theorem DefAt.cal {P : Program} {w : World} {K : PySem.W.Frag} {mg : Str → Option Value} {base : Heap} {x : Str} {st : Stmt} {ps : List Str} {f : Addr} {fd : FuncData} {k : Nat} {sp : Sp} (d : DefAt K mg x st ps f fd) (h : FnOk P w K mg base CX0 k f fd ps sp) : Cal P w K mg base k x ps sp :=
  ⟨f, fd, h, d.2.1, d.1.kp, d.2.2⟩
theorem same_upd {H : Hp} {p : Addr} {o : HO} (h : H p = Option.none) : Same H (upd H p o) := fun b x e => by
  rw [upd_ne (ne_of_none e h)]
  exact e
theorem same_rd {H H' : Hp} {a : Addr} {u : HO} (e : Same H H') (h : Rd H a u) : Rd H' a u := by
  rcases h with h | ⟨o, h⟩
  · exact .inl (e _ _ h)
  · exact .inr ⟨o, e _ _ h⟩
theorem same_tupD {H H' : Hp} {a : Addr} {xs : List V} (e : Same H H') (h : TupD H a xs) : TupD H' a xs := by
  obtain ⟨o, h1, h2⟩ := h
  exact ⟨o, h1, e _ _ h2⟩
theorem TupD.rd {H : Hp} {a : Addr} {xs : List V} (h : TupD H a xs) : Rd H a (.tup xs) := by
  obtain ⟨o, _, h⟩ := h
  exact .inr ⟨o, h⟩
theorem rd_sq {K : PySem.W.Frag} {H : Hp} {a : Addr} {xs : List V} (h : Rd H a (.tup xs)) : SqT K H a xs := .inl h
theorem rd_ty {K : PySem.W.Frag} {H : Hp} {a : Addr} {xs : List V} (h : Rd H a (.tup xs)) : TyX K H (.ref a) (.type "tuple") := by
  rcases h with h | ⟨o, h⟩
  · exact .base (.tup h)
  · exact .fTuple h
theorem small_of {n m : Nat} (h : n ≤ m) (hm : m ≤ 1000 := by decide) : n < sizeLine := small1000 (Nat.le_trans h hm)
/-- a comprehension that leaves all that stood as it was: acc i is the list behind i turns -/
theorem lc_acc {J : It} {n : Nat} {G : Hp → Prop} {Y : Nat → Hp → V → Hp → Prop} (w : Walk J n G Y) {g : TG} {tt : TT} {te : TE} {vs : List Nat} {σ : L2.St} {H1 : Hp} {D : Addr} {Qd : Hp → Prop} (nD : H1 D = Option.none)
    (acc : Nat → List V) (h0 : acc 0 = []) (hz : ∀ i, i < n → (acc i).length < sizeLine) (hG : ∀ H, Same H1 H → G H)
    (hs : ∀ (i : Nat) (x : V) (H H' : Hp) (N : Hp → Prop), i < n → Same H1 H → Y i H x H' → (∀ y H4, acc (i + 1) = acc i ++ [y] → Same H H4 → ∃ a, H4 D = some (.lst a) ∧ a.length < sizeLine ∧ N (upd H4 D (.lst (a ++ [y])))) →
      (acc (i + 1) = acc i → ∀ H3, Same H H3 → N H3) → g x (wipe σ vs) H' fun σ2 H2 => wipe σ2 vs = wipe σ vs ∧ tt σ2 H2 fun b H3 =>
      if b = true then te σ2 H3 fun y H4 => ∃ a, H4 D = some (.lst a) ∧ a.length < sizeLine ∧ N (upd H4 D (.lst (a ++ [y]))) else N H3)
    (hd : ∀ H, Same H1 H → H D = some (.lst (acc n)) → Qd H) :
    ∃ W : Nat → Nat → Hp → Prop, (∃ m, W 0 m (upd H1 D (.lst []))) ∧ ∀ i m H, W i m H →
      (J.stop i H ∧ Qd H) ∨ (J.go i H ∧ ∃ Nx : Hp → Prop, (∀ H', Nx H' → ∃ m', m' < m ∧ W (i + 1) m' H') ∧ ∀ x H', J.yld i H x H' → g x (wipe σ vs) H' fun σ2 H2 => wipe σ2 vs = wipe σ vs ∧ tt σ2 H2 fun b H3 =>
        if b = true then te σ2 H3 fun y H4 => ∃ acc, H4 D = some (.lst acc) ∧ acc.length < sizeLine ∧ Nx (upd H4 D (.lst (acc ++ [y]))) else Nx H3) := by
  have keep : ∀ {H : Hp} {ys : List V}, Same H1 H → Same H1 (upd H D (.lst ys)) := fun {H ys} sm b o e => by
    rw [upd_ne (ne_of_none e nD)]
    exact sm _ _ e
  refine lc_it w (fun i H => Same H1 H ∧ H D = some (.lst (acc i))) ⟨same_upd nD, by rw [upd_same, h0]⟩ (fun i H _ p => hG H p.1) ?_ (fun H p => hd H p.1 p.2)
  intro i x H H' hi p y
  refine hs i x H H' _ hi p.1 y (fun y H4 e sm => ?_) (fun e H3 sm => ?_)
  · refine ⟨acc i, sm _ _ p.2, hz i hi, keep (p.1.trans sm), ?_⟩
    rw [upd_same, e]
  · refine ⟨p.1.trans sm, ?_⟩
    rw [e]
    exact sm _ _ p.2
/-- the list behind i turns, where every turn adds one -/
theorem take_step {α : Type} {ys : List α} {i : Nat} {y : α} (h : ys[i]? = some y) : ys.take (i + 1) = ys.take i ++ [y] := by
  rw [List.take_add_one, h]
  rfl
theorem take_len {ys : List V} {i m : Nat} (h : ys.length ≤ m) (hm : m ≤ 1000 := by decide) : (ys.take i).length < sizeLine := by
  refine small_of (m := m) ?_ hm
  rw [List.length_take]
  omega
theorem get_map {ns : List Int} {i : Nat} {x : V} (h : (ns.map V.int)[i]? = some x) : ∃ n, ns[i]? = some n ∧ x = .int n := by
  rw [List.getElem?_map] at h
  cases e : ns[i]? with
  | none => rw [e] at h; cases h
  | some n => rw [e] at h; exact ⟨n, rfl, (Option.some.inj h).symm⟩
theorem all_true (n : Nat) : (List.replicate n true).all id = true := by
  rw [List.all_eq_true]
  intro x hx
  rw [List.eq_of_mem_replicate hx]
  rfl
theorem trues_len {i n : Nat} (h : i < n) (hn : n ≤ 1000) : ((List.replicate i true).map V.bl).length < sizeLine := by
  rw [List.length_map, List.length_replicate]
  exact small1000 (by omega)
theorem trues_step (i : Nat) : (List.replicate (i + 1) true).map V.bl = (List.replicate i true).map V.bl ++ [V.bl true] := by
  rw [List.replicate_succ', List.map_append]
  rfl
/-- an allocation of at most 20 buckets to 1 to 5 variants -/
structure AlOk (ns : List Int) : Prop where
  lo : 1 ≤ ns.length
  hi : ns.length ≤ 5
  pos : ∀ x ∈ ns, 0 ≤ x
  sum : ns.sum ≤ 20
theorem iteC {b : Bool} {A B : Prop} (hb : b = true) (h : A) : if b = true then A else B := by
  rw [if_pos hb]
  exact h
theorem iteD {b : Bool} {A B : Prop} (hb : b = false) (h : B) : if b = true then A else B := by
  rw [if_neg (by rw [hb]; exact Bool.false_ne_true)]
  exact h
theorem iteB {b : Bool} {A B : Prop} (h1 : b = true → A) (h2 : b = false → B) : if b = true then A else B := by
  cases b with
  | true => exact iteT (h1 rfl)
  | false => exact iteF (h2 rfl)
end K17
namespace K17
open PySem PySem.Spec PyProof.Rows L2
section
variable {P : Program} {w : World} {K : PySem.W.Frag} {mg : Str → Option Value} {base : Heap}
/-! ### is_whole, is_integer: of a whole number -/
def spInt : Sp := fun vs H Q _ => ∃ n : Int, vs = [.int n] ∧ Q (.bl true) H
theorem scWhole : FnScope ["value"] ["value"] (defScope sWhole) := ⟨rfl, rfl, rfl, by decide +kernel, rfl, by decide +kernel, by decide +kernel⟩
theorem ok_whole {f : Addr} {fd : FuncData} (F : DefAt K mg "is_whole" sWhole ["value"] f fd) (B : Blt mg) : FnOk P w K mg base CX0 1 f fd ["value"] spInt := by
  refine F.1.ok scWhole (fun vs H Q E h => ?_) (fun cdv A outer s H vs Q E hr h => ?_)
  · obtain ⟨n, rfl, _⟩ := h
    rfl
  · obtain ⟨n, rfl, q⟩ := h
    refine ⟨_, pss_one (ps_ret (pe_and (pe_callB call_isi (by rfl) B.isinstance (by decide +kernel) (pa_cons (pv 0) (pa_cons (pe_bltn (v := .ty "int") (by rfl) B.int (by decide +kernel) rfl) pa_nil)))
      (pe_one (pe_not (pe_callB call_isi (by rfl) B.isinstance (by decide +kernel) (pa_cons (pv 0) (pa_cons (pe_bltn (v := .ty "bool") (by rfl) B.bool (by decide +kernel) rfl) pa_nil))))))), ?_⟩
    refine ⟨_, rfl, _, _, .type "int", .type "int", true, rfl, .ty "int", .base (.int n), kit_ty (by decide +kernel), true, rfl, iteT ?_⟩
    exact ⟨_, rfl, _, _, .type "int", .type "bool", false, rfl, .ty "bool", .base (.int n), kit_ty (by decide +kernel), false, rfl, q⟩
theorem scInteger : FnScope ["value"] ["value"] (defScope sInteger) := ⟨rfl, rfl, rfl, by decide +kernel, rfl, by decide +kernel, by decide +kernel⟩
theorem ok_integer {f : Addr} {fd : FuncData} (F : DefAt K mg "is_integer" sInteger ["value"] f fd) (B : Blt mg) : FnOk P w K mg base CX0 1 f fd ["value"] spInt := by
  refine F.1.ok scInteger (fun vs H Q E h => ?_) (fun cdv A outer s H vs Q E hr h => ?_)
  · obtain ⟨n, rfl, _⟩ := h
    rfl
  · obtain ⟨n, rfl, q⟩ := h
    refine ⟨_, pss_one (ps_ret (pe_and (pe_callB call_isi (by rfl) B.isinstance (by decide +kernel) (pa_cons (pv 0) (pa_cons (pe_bltn (v := .ty "int") (by rfl) B.int (by decide +kernel) rfl) pa_nil)))
      (pe_one (pe_not (pe_callB call_isi (by rfl) B.isinstance (by decide +kernel) (pa_cons (pv 0) (pa_cons (pe_bltn (v := .ty "bool") (by rfl) B.bool (by decide +kernel) rfl) pa_nil))))))), ?_⟩
    refine ⟨_, rfl, _, _, .type "int", .type "int", true, rfl, .ty "int", .base (.int n), kit_ty (by decide +kernel), true, rfl, iteT ?_⟩
    exact ⟨_, rfl, _, _, .type "int", .type "bool", false, rfl, .ty "bool", .base (.int n), kit_ty (by decide +kernel), false, rfl, q⟩
/-! ### is_between: of whole numbers, the value within -/
def spBetween : Sp := fun vs H Q _ => ∃ n lo hi : Int, vs = [.int n, .int lo, .int hi] ∧ lo ≤ n ∧ n ≤ hi ∧ Q (.bl true) H
theorem scBetween : FnScope ["value", "low", "high"] ["value", "low", "high"] (defScope sBetween) := ⟨rfl, rfl, rfl, by decide +kernel, rfl, by decide +kernel, by decide +kernel⟩
theorem ok_between {f : Addr} {fd : FuncData} (F : DefAt K mg "is_between" sBetween ["value", "low", "high"] f fd) (C1 : Cal P w K mg base 1 "is_whole" ["value"] spInt) : FnOk P w K mg base CX0 2 f fd ["value", "low", "high"] spBetween := by
  obtain ⟨f1, fd1, G1, g1, kp1, b1⟩ := C1
  refine F.1.ok scBetween (fun vs H Q E h => ?_) (fun cdv A outer s H vs Q E hr h => ?_)
  · obtain ⟨n, lo, hi, rfl, _⟩ := h
    rfl
  · obtain ⟨n, lo, hi, rfl, h1, h2, q⟩ := h
    refine ⟨_, pss_one (ps_ret (pe_and (pe_call G1 hr (by rfl) g1 kp1 b1 .nil pass0 (pa_cons (pv 0) pa_nil)) (pe_one (pe_chain op_le op_le (pv 1) (pv 0) (pv 2))))), ?_⟩
    refine ⟨_, rfl, n, rfl, true, rfl, iteT ?_⟩
    refine ⟨_, rfl, _, rfl, _, _, rfl, rfl, true, ?_, iteT ⟨_, rfl, _, _, rfl, rfl, ?_⟩⟩
    · show V.bl (decide (lo ≤ n)) = V.bl true
      rw [decide_eq_true h1]
    · show Q (V.bl (decide (n ≤ hi))) H
      rw [decide_eq_true h2]
      exact q
/-! ### is_assignment: of a tuple of whole numbers below v -/
def spIsAssign : Sp := fun vs H Q _ => ∃ (a : Addr) (ns : List Int) (v : Nat), vs = [.ref a, .int (v : Int), .int (ns.length : Int)] ∧ Rd H a (.tup (ns.map V.int)) ∧ InR v ns ∧ ns.length ≤ 20 ∧ ∀ H', Same H H' → Q (.bl true) H'
theorem scIsAssign : FnScope ["value", "variants", "buckets", "variant"] ["value", "variants", "buckets"] (defScope sIsAssign) := ⟨rfl, rfl, rfl, by decide +kernel, rfl, by decide +kernel, by decide +kernel⟩
theorem ok_isassign {f : Addr} {fd : FuncData} (F : DefAt K mg "is_assignment" sIsAssign ["value", "variants", "buckets"] f fd) (B : Blt mg) (C1 : Cal P w K mg base 2 "is_between" ["value", "low", "high"] spBetween) : FnOk P w K mg base CX0 3 f fd ["value", "variants", "buckets"] spIsAssign := by
  obtain ⟨f1, fd1, G1, g1, kp1, b1⟩ := C1
  refine F.1.ok scIsAssign (fun vs H Q E h => ?_) (fun cdv A outer s H vs Q E hr h => ?_)
  · obtain ⟨a, ns, v, rfl, _⟩ := h
    rfl
  · obtain ⟨a, ns, v, rfl, hT, hR, hlen, q⟩ := h
    refine ⟨_, pss_cons (ps_if (PW.pt (pw_or (pt_not (pt_val (pe_callB call_isi (by rfl) B.isinstance (by decide +kernel) (pa_cons (pv 0) (pa_cons (pe_bltn (v := .ty "tuple") (by rfl) B.tuple (by decide +kernel) rfl) pa_nil)))))
        (pw_or1 (pt_cmpR op_ne (pe_callB call_len (by rfl) B.len (by decide +kernel) (pa_cons (pv 0) pa_nil)) (pv 2) (nomark _))))) (pss_one (ps_ret pe_bl)) pss_nil)
      (pss_one (ps_ret (pe_callB (cr_all rfl) (by rfl) B.all (by decide +kernel) (pa_cons (pe_lc (own := [("variant", 3)]) (g := gName 3) (tt := tYes) rfl scIsAssign.nd (pi_tup (pv 0)) (blkOk_by (N := ["value", "variants", "buckets", "variant"]) (sc := defScope sIsAssign) (by decide +kernel))
        (fun _ _ _ _ _ => pg_name (i := 3) scIsAssign.nd rfl (Or.inl rfl)) (fun _ _ _ _ _ => pts_nil)
        (fun _ _ _ _ _ => pe_call G1 hr (by rfl) g1 kp1 b1 .nil pass0 (pa_cons (pv 3) (pa_cons pe_int (pa_cons (pe_op op_sub (pv 1) pe_int) pa_nil))))) pa_nil)))), ?_⟩
    refine ⟨_, rfl, _, _, .type "tuple", .type "tuple", true, rfl, .ty "tuple", rd_ty hT, kit_ty (by decide +kernel), true, rfl, iteF ?_⟩
    refine ⟨_, rfl, _, _, rfl, .inr ⟨_, rd_sq hT, rfl⟩, _, rfl, rfl, _, rfl, iteNS (by rw [List.length_map]) ?_⟩
    refine ⟨_, rfl, _, rfl, ⟨_, rd_sq hT⟩, fun D nD => ?_⟩
    refine lc_acc walk_tup nD (fun i => (List.replicate i true).map V.bl) rfl (fun i hi => ?_) (fun H' sm => rd_sq (same_rd sm hT)) ?_ (fun H' sm hD => ?_)
    · rw [List.length_map] at hi
      exact trues_len hi (by omega)
    · rintro i x H1 H2 N hi sm ⟨rfl, hx⟩ fin skip
      obtain ⟨n, hn, rfl⟩ := get_map hx
      have hb := hR n (List.mem_of_getElem? hn)
      refine ⟨rfl, iteT (B := N H2) ⟨_, rfl, _, rfl, _, _, rfl, rfl, n, 0, (v : Int) - 1, rfl, by omega, by omega, ?_⟩⟩
      exact fin _ _ (trues_step i) (Same.refl _)
    · refine ⟨_, _, rfl, SqL.of hD, ?_⟩
      show Q (.bl ((List.replicate _ true).all id)) _
      rw [all_true]
      exact q _ sm
end
end K17
namespace K17
open PySem PySem.Spec PyProof.Rows L2
section
variable {P : Program} {w : World} {K : PySem.W.Frag} {mg : Str → Option Value} {base : Heap}
/-! ### is_allocation: of an allocation, its length and its sum -/
def spIsAlloc : Sp := fun vs H Q _ => ∃ (a : Addr) (ns : List Int), vs = [.ref a, .int (ns.length : Int), .int ns.sum] ∧ Rd H a (.tup (ns.map V.int)) ∧ AlOk ns ∧ ∀ H', Same H H' → Q (.bl true) H'
theorem scIsAlloc : FnScope ["value", "variants", "buckets", "share"] ["value", "variants", "buckets"] (defScope sIsAlloc) := ⟨rfl, rfl, rfl, by decide +kernel, rfl, by decide +kernel, by decide +kernel⟩
theorem ok_isalloc {f : Addr} {fd : FuncData} (F : DefAt K mg "is_allocation" sIsAlloc ["value", "variants", "buckets"] f fd) (B : Blt mg) (C1 : Cal P w K mg base 1 "is_whole" ["value"] spInt) : FnOk P w K mg base CX0 2 f fd ["value", "variants", "buckets"] spIsAlloc := by
  obtain ⟨f1, fd1, G1, g1, kp1, b1⟩ := C1
  refine F.1.ok scIsAlloc (fun vs H Q E h => ?_) (fun cdv A outer s H vs Q E hr h => ?_)
  · obtain ⟨a, ns, rfl, _⟩ := h
    rfl
  · obtain ⟨a, ns, rfl, hT, hA, q⟩ := h
    refine ⟨_, pss_cons (ps_if (PW.pt (pw_or (pt_not (pt_val (pe_callB call_isi (by rfl) B.isinstance (by decide +kernel) (pa_cons (pv 0) (pa_cons (pe_bltn (v := .ty "tuple") (by rfl) B.tuple (by decide +kernel) rfl) pa_nil)))))
        (pw_or1 (pt_cmpR op_ne (pe_callB call_len (by rfl) B.len (by decide +kernel) (pa_cons (pv 0) pa_nil)) (pv 1) (nomark _))))) (pss_one (ps_ret pe_bl)) pss_nil)
      (pss_one (ps_ret (pe_and (pe_callB (cr_all rfl) (by rfl) B.all (by decide +kernel) (pa_cons (pe_lc (own := [("share", 3)]) (g := gName 3) (tt := tYes) rfl scIsAlloc.nd (pi_tup (pv 0)) (blkOk_by (N := ["value", "variants", "buckets", "share"]) (sc := defScope sIsAlloc) (by decide +kernel))
        (fun _ _ _ _ _ => pg_name (i := 3) scIsAlloc.nd rfl (Or.inl rfl)) (fun _ _ _ _ _ => pts_nil)
        (fun _ _ _ _ _ => pe_and (pe_call G1 hr (by rfl) g1 kp1 b1 .nil pass0 (pa_cons (pv 3) pa_nil)) (pe_one (pe_cmpR op_ge (pv 3) pe_int (nomark _))))) pa_nil))
        (pe_one (pe_cmpR op_eq (pe_callB (cr_sumT rfl) (by rfl) B.sum (by decide +kernel) (pa_cons (pv 0) pa_nil)) (pv 2) (nomark _)))))), ?_⟩
    refine ⟨_, rfl, _, _, .type "tuple", .type "tuple", true, rfl, .ty "tuple", rd_ty hT, kit_ty (by decide +kernel), true, rfl, iteF ?_⟩
    refine ⟨_, rfl, _, _, rfl, .inr ⟨_, rd_sq hT, rfl⟩, _, rfl, rfl, _, rfl, iteNS (by rw [List.length_map]) ?_⟩
    refine ⟨_, rfl, _, rfl, ⟨_, rd_sq hT⟩, fun D nD => ?_⟩
    have hhi := hA.hi
    refine lc_acc walk_tup nD (fun i => (List.replicate i true).map V.bl) rfl (fun i hi => ?_) (fun H' sm => rd_sq (same_rd sm hT)) ?_ (fun H' sm hD => ?_)
    · rw [List.length_map] at hi
      exact trues_len hi (by omega)
    · rintro i x H1 H2 N hi sm ⟨rfl, hx⟩ fin skip
      obtain ⟨n, hn, rfl⟩ := get_map hx
      have hb := hA.pos n (List.mem_of_getElem? hn)
      refine ⟨rfl, iteT (B := N H2) ⟨_, rfl, n, rfl, true, rfl, iteT ⟨_, rfl, _, _, rfl, rfl, ?_⟩⟩⟩
      refine fin (V.bl (decide (0 ≤ n))) _ ?_ (Same.refl _)
      rw [decide_eq_true hb]
      exact trues_step i
    · refine ⟨_, _, rfl, SqL.of hD, true, ?_, iteT ⟨_, rfl, _, _, rfl, rd_sq (same_rd sm hT), _, rfl, rfl, ?_⟩⟩
      · show V.bl ((List.replicate _ true).all id) = V.bl true
        rw [all_true]
      · show Q (V.bl (decide (V.int ns.sum = V.int ns.sum))) H'
        rw [decide_eq_true rfl]
        exact q _ sm
/-! ### check_variants -/
def spChkVar : Sp := fun vs H Q _ => ∃ v : Int, vs = [.int v] ∧ 1 ≤ v ∧ v ≤ 5 ∧ Q .non H
theorem scChkVar : FnScope ["variants"] ["variants"] (defScope sChkVar) := ⟨rfl, rfl, rfl, by decide +kernel, rfl, by decide +kernel, by decide +kernel⟩
theorem ok_chkvar {f : Addr} {fd : FuncData} (F : DefAt K mg "check_variants" sChkVar ["variants"] f fd) (T : Cst mg) (C1 : Cal P w K mg base 1 "is_integer" ["value"] spInt) : FnOk P w K mg base CX0 2 f fd ["variants"] spChkVar := by
  obtain ⟨f1, fd1, G1, g1, kp1, b1⟩ := C1
  obtain ⟨tv, hmv⟩ := T.mv
  refine F.1.ok scChkVar (fun vs H Q E h => ?_) (fun cdv A outer s H vs Q E hr h => ?_)
  · obtain ⟨v, rfl, _⟩ := h
    rfl
  · obtain ⟨v, rfl, h1, h2, q⟩ := h
    refine ⟨_, pss_one (ps_if (PW.pt (pw_or (pt_not (pt_val (pe_call G1 hr (by rfl) g1 kp1 b1 .nil pass0 (pa_cons (pv 0) pa_nil))))
      (pw_or1 (pt_not (pt_chain op_le op_le pe_int (pv 0) (pe_glob (v := .int 5) rfl hmv ⟨_, rfl⟩)))))) (pss_one ps_never) pss_nil), ?_⟩
    refine ⟨_, rfl, v, rfl, true, rfl, iteF ?_⟩
    refine ⟨_, rfl, _, _, rfl, rfl, true, ?_, iteT ⟨_, _, rfl, rfl, true, ?_, ?_⟩⟩
    · show V.bl (decide (1 ≤ v)) = V.bl true
      rw [decide_eq_true h1]
    · show V.bl (decide (v ≤ 5)) = V.bl true
      rw [decide_eq_true h2]
    · exact iteF q
/-! ### is_some_allocation, check_allocation -/
def spSomeAlloc : Sp := fun vs H Q _ => ∃ (a : Addr) (ns : List Int), vs = [.ref a] ∧ Rd H a (.tup (ns.map V.int)) ∧ AlOk ns ∧ ∀ H', Same H H' → Q (.bl true) H'
def spChkAlloc : Sp := fun vs H Q _ => ∃ (a : Addr) (ns : List Int), vs = [.ref a] ∧ Rd H a (.tup (ns.map V.int)) ∧ AlOk ns ∧ ∀ H', Same H H' → Q .non H'
theorem scSomeAlloc : FnScope ["value", "share"] ["value"] (defScope sSomeAlloc) := ⟨rfl, rfl, rfl, by decide +kernel, rfl, by decide +kernel, by decide +kernel⟩
theorem ok_somealloc {f : Addr} {fd : FuncData} (F : DefAt K mg "is_some_allocation" sSomeAlloc ["value"] f fd) (B : Blt mg) (T : Cst mg) (C1 : Cal P w K mg base 1 "is_integer" ["value"] spInt) (C2 : Cal P w K mg base 2 "is_allocation" ["value", "variants", "buckets"] spIsAlloc) : FnOk P w K mg base CX0 3 f fd ["value"] spSomeAlloc := by
  obtain ⟨f1, fd1, G1, g1, kp1, b1⟩ := C1
  obtain ⟨f2, fd2, G2, g2, kp2, b2⟩ := C2
  obtain ⟨tv, hmv⟩ := T.mv
  obtain ⟨tb, hmb⟩ := T.mb
  refine F.1.ok scSomeAlloc (fun vs H Q E h => ?_) (fun cdv A outer s H vs Q E hr h => ?_)
  · obtain ⟨a, ns, rfl, _⟩ := h
    rfl
  · obtain ⟨a, ns, rfl, hT, hA, q⟩ := h
    refine ⟨_, pss_cons (ps_if (PW.pt (pw_or (pt_not (pt_val (pe_callB call_isi (by rfl) B.isinstance (by decide +kernel) (pa_cons (pv 0) (pa_cons (pe_bltn (v := .ty "tuple") (by rfl) B.tuple (by decide +kernel) rfl) pa_nil)))))
        (pw_or1 (pt_not (pt_chain op_le op_le pe_int (pe_callB call_len (by rfl) B.len (by decide +kernel) (pa_cons (pv 0) pa_nil)) (pe_glob (v := .int 5) rfl hmv ⟨_, rfl⟩)))))) (pss_one (ps_ret pe_bl)) pss_nil)
      (pss_cons (ps_if (PW.pt (pw_or (pt_not (pt_val (pe_callB (cr_all rfl) (by rfl) B.all (by decide +kernel) (pa_cons (pe_lc (own := [("share", 1)]) (g := gName 1) (tt := tYes) rfl scSomeAlloc.nd (pi_tup (pv 0)) (blkOk_by (N := ["value", "share"]) (sc := defScope sSomeAlloc) (by decide +kernel))
        (fun _ _ _ _ _ => pg_name (i := 1) scSomeAlloc.nd rfl (Or.inl rfl)) (fun _ _ _ _ _ => pts_nil)
        (fun _ _ _ _ _ => pe_and (pe_call G1 (hr.mono (by decide)) (by rfl) g1 kp1 b1 .nil pass0 (pa_cons (pv 1) pa_nil)) (pe_one (pe_cmpR op_ge (pv 1) pe_int (nomark _))))) pa_nil))))
        (pw_or1 (pt_cmpR op_gt (pe_callB (cr_sumT rfl) (by rfl) B.sum (by decide +kernel) (pa_cons (pv 0) pa_nil)) (pe_glob (v := .int 20) rfl hmb ⟨_, rfl⟩) (nomark _))))) (pss_one (ps_ret pe_bl)) pss_nil)
      (pss_one (ps_ret (pe_call G2 hr (by rfl) g2 kp2 b2 .nil pass0 (pa_cons (pv 0) (pa_cons (pe_callB call_len (by rfl) B.len (by decide +kernel) (pa_cons (pv 0) pa_nil)) (pa_cons (pe_callB (cr_sumT rfl) (by rfl) B.sum (by decide +kernel) (pa_cons (pv 0) pa_nil)) pa_nil))))))), ?_⟩
    have hlo := hA.lo
    have hhi := hA.hi
    have hsu := hA.sum
    refine ⟨_, rfl, _, _, .type "tuple", .type "tuple", true, rfl, .ty "tuple", rd_ty hT, kit_ty (by decide +kernel), true, rfl, iteF ?_⟩
    refine ⟨_, rfl, _, _, rfl, .inr ⟨_, rd_sq hT, rfl⟩, _, _, rfl, rfl, true, ?_, iteT ⟨_, _, rfl, rfl, true, ?_, ?_⟩⟩
    · show V.bl (decide (1 ≤ (((ns.map V.int).length : Nat) : Int))) = V.bl true
      rw [List.length_map, decide_eq_true (by omega)]
    · show V.bl (decide ((((ns.map V.int).length : Nat) : Int) ≤ 5)) = V.bl true
      rw [List.length_map, decide_eq_true (by omega)]
    refine iteF ?_
    refine ⟨_, rfl, _, rfl, ⟨_, rd_sq hT⟩, fun D nD => ?_⟩
    refine lc_acc walk_tup nD (fun i => (List.replicate i true).map V.bl) rfl (fun i hi => ?_) (fun H' sm => rd_sq (same_rd sm hT)) ?_ (fun H' sm hD => ?_)
    · rw [List.length_map] at hi
      exact trues_len hi (by omega)
    · rintro i x H1 H2 N hi sm ⟨rfl, hx⟩ fin skip
      obtain ⟨n, hn, rfl⟩ := get_map hx
      have hb := hA.pos n (List.mem_of_getElem? hn)
      refine ⟨rfl, iteT (B := N H2) ⟨_, rfl, n, rfl, true, rfl, iteT ⟨_, rfl, _, _, rfl, rfl, ?_⟩⟩⟩
      refine fin (V.bl (decide (0 ≤ n))) _ ?_ (Same.refl _)
      rw [decide_eq_true hb]
      exact trues_step i
    · have hT' := same_rd sm hT
      refine ⟨_, _, rfl, SqL.of hD, true, ?_, iteF ⟨_, rfl, _, _, rfl, rd_sq hT', _, _, rfl, rfl, false, ?_, iteF ?_⟩⟩
      · show V.bl ((List.replicate _ true).all id) = V.bl true
        rw [all_true]
      · show V.bl (decide (20 < ns.sum)) = V.bl false
        rw [decide_eq_false (by omega)]
      · refine ⟨_, rfl, _, rfl, _, _, rfl, .inr ⟨_, rd_sq hT', rfl⟩, _, rfl, _, _, rfl, rd_sq hT', a, ns, ?_, hT', hA, fun H2 sm2 => q _ (sm.trans sm2)⟩
        rw [List.length_map]
        rfl
theorem scChkAlloc : FnScope ["value"] ["value"] (defScope sChkAlloc) := ⟨rfl, rfl, rfl, by decide +kernel, rfl, by decide +kernel, by decide +kernel⟩
theorem ok_chkalloc {f : Addr} {fd : FuncData} (F : DefAt K mg "check_allocation" sChkAlloc ["value"] f fd) (C1 : Cal P w K mg base 3 "is_some_allocation" ["value"] spSomeAlloc) : FnOk P w K mg base CX0 4 f fd ["value"] spChkAlloc := by
  obtain ⟨f1, fd1, G1, g1, kp1, b1⟩ := C1
  refine F.1.ok scChkAlloc (fun vs H Q E h => ?_) (fun cdv A outer s H vs Q E hr h => ?_)
  · obtain ⟨a, ns, rfl, _⟩ := h
    rfl
  · obtain ⟨a, ns, rfl, hT, hA, q⟩ := h
    refine ⟨_, pss_one (ps_if (pt_not (pt_val (pe_call G1 hr (by rfl) g1 kp1 b1 .nil pass0 (pa_cons (pv 0) pa_nil)))) (pss_one ps_never) pss_nil), ?_⟩
    exact ⟨_, rfl, a, ns, rfl, hT, hA, fun H' sm => ⟨true, rfl, iteF (q _ sm)⟩⟩
/-! ### check_assignment -/
def spChkAssign : Sp := fun vs H Q _ => ∃ (al a : Addr) (cs ns : List Int) (z : Str), vs = [.ref al, .ref a, .str z] ∧ Rd H al (.tup (cs.map V.int)) ∧ Rd H a (.tup (ns.map V.int)) ∧ InR cs.length ns ∧ ns.length ≤ 20 ∧ cs.sum = (ns.length : Int) ∧ ∀ H', Same H H' → Q .non H'
theorem scChkAssign : FnScope ["allocation", "value", "name"] ["allocation", "value", "name"] (defScope sChkAssign) := ⟨rfl, rfl, rfl, by decide +kernel, rfl, by decide +kernel, by decide +kernel⟩
theorem ok_chkassign {f : Addr} {fd : FuncData} (F : DefAt K mg "check_assignment" sChkAssign ["allocation", "value", "name"] f fd) (B : Blt mg) (C1 : Cal P w K mg base 3 "is_assignment" ["value", "variants", "buckets"] spIsAssign) : FnOk P w K mg base CX0 4 f fd ["allocation", "value", "name"] spChkAssign := by
  obtain ⟨f1, fd1, G1, g1, kp1, b1⟩ := C1
  refine F.1.ok scChkAssign (fun vs H Q E h => ?_) (fun cdv A outer s H vs Q E hr h => ?_)
  · obtain ⟨al, a, cs, ns, z, rfl, _⟩ := h
    rfl
  · obtain ⟨al, a, cs, ns, z, rfl, hC, hT, hR, hlen, hsum, q⟩ := h
    refine ⟨_, pss_one (ps_if (pt_not (pt_val (pe_call G1 hr (by rfl) g1 kp1 b1 .nil pass0 (pa_cons (pv 1) (pa_cons (pe_callB call_len (by rfl) B.len (by decide +kernel) (pa_cons (pv 0) pa_nil)) (pa_cons (pe_callB (cr_sumT rfl) (by rfl) B.sum (by decide +kernel) (pa_cons (pv 0) pa_nil)) pa_nil)))))) (pss_one ps_never) pss_nil), ?_⟩
    refine ⟨_, rfl, _, rfl, _, _, rfl, .inr ⟨_, rd_sq hC, rfl⟩, _, rfl, _, _, rfl, rd_sq hC, a, ns, cs.length, ?_, hT, hR, hlen, fun H' sm => ⟨true, rfl, iteF (q _ sm)⟩⟩
    rw [List.length_map, hsum]
    rfl
end
end K17
namespace K17
open PySem PySem.Spec PyProof.Rows L2
section
variable {P : Program} {w : World} {K : PySem.W.Frag} {mg : Str → Option Value} {base : Heap}
/-! ### counts_of -/
def spCounts : Sp := fun vs H Q _ => ∃ (a : Addr) (ns : List Int) (v : Nat), vs = [.ref a, .int (v : Int)] ∧ TupD H a (ns.map V.int) ∧ v ≤ 5 ∧ ∀ H' p, Same H H' → H p = Option.none → H' p = some (.tup ((cnt v ns).map V.int)) → Q (.ref p) H'
theorem scCounts : FnScope ["assignment", "variants", "variant"] ["assignment", "variants"] (defScope sCounts) := ⟨rfl, rfl, rfl, by decide +kernel, rfl, by decide +kernel, by decide +kernel⟩
theorem ok_counts {f : Addr} {fd : FuncData} (F : DefAt K mg "counts_of" sCounts ["assignment", "variants"] f fd) (B : Blt mg) : FnOk P w K mg base CX0 1 f fd ["assignment", "variants"] spCounts := by
  refine F.1.ok scCounts (fun vs H Q E h => ?_) (fun cdv A outer s H vs Q E hr h => ?_)
  · obtain ⟨a, ns, v, rfl, _⟩ := h
    rfl
  · obtain ⟨a, ns, v, rfl, hT, hv, q⟩ := h
    refine ⟨_, pss_one (ps_ret (pe_callTy call_tuple_of (by rfl) B.tuple (by decide +kernel) (pa_cons (pe_lc (own := [("variant", 2)]) (g := gName 2) (tt := tYes) rfl scCounts.nd (pi_range1 rfl B.range (pa_cons (pv 1) pa_nil)) (blkOk_by (N := ["assignment", "variants", "variant"]) (sc := defScope sCounts) (by decide +kernel))
        (fun _ _ _ _ _ => pg_name (i := 2) scCounts.nd rfl (Or.inl rfl)) (fun _ _ _ _ _ => pts_nil)
        (fun _ _ _ _ _ => pe_tm (r := rCntT K) PySem.F.slot_tuple_count PySem.F.type_tuple_count mt_tcount (pv 0) (pa_cons (pv 2) pa_nil))) pa_nil))), ?_⟩
    refine ⟨_, rfl, _, rfl, by omega, by omega, fun D nD => ?_⟩
    refine lc_acc walk_range nD (fun i => ((cnt v ns).map V.int).take i) rfl (fun i hi => ?_) (fun H' sm => trivial) ?_ (fun H' sm hD => ?_)
    · refine take_len (m := 5) ?_
      rw [List.length_map, cnt_length]
      exact hv
    · rintro i x H1 H2 N hi sm ⟨rfl, rfl⟩ fin skip
      refine ⟨rfl, iteT (B := N H2) ⟨_, rfl, ⟨a, _, rfl, same_tupD sm hT⟩, _, rfl, a, ns, _, rfl, rfl, (same_tupD sm hT).sq, ?_⟩⟩
      refine fin _ _ (take_step ?_) (Same.refl _)
      rw [List.getElem?_map, cnt_get (by simpa using hi)]
      simp
    · refine ⟨_, _, rfl, .inl ⟨SqL.of hD, fun l nl => ?_⟩⟩
      refine q _ l (fun b o e => ?_) (sm.free nl) ?_
      · rw [upd_ne (ne_of_none (sm _ _ e) nl)]
        exact sm _ _ e
      · rw [upd_same, List.take_of_length_le]
        rw [List.length_map, cnt_length]
        simp
/-! ### needless_move -/
theorem at_int {ns : List Int} {x : Int} {n : Int} (h0 : 0 ≤ x) (h : ns[x.toNat]? = some n) : atI (ns.map V.int) x = some (.int n) := by
  refine at_of (j := x.toNat) (by omega) ?_
  rw [List.getElem?_map, h]
  rfl
theorem at_cnt {v : Nat} {as : List Int} {x : Int} (h : 0 ≤ x ∧ x < (v : Int)) : atI ((cnt v as).map V.int) x = some (.int ((as.count x : Nat) : Int)) := by
  refine at_int h.1 ?_
  rw [cnt_get (by omega), show ((x.toNat : Nat) : Int) = x by omega]
def Told (as bs : List Int) (r : V) : Prop := (r = .non ∧ Good as bs) ∨ (r ≠ .non ∧ ¬ Good as bs)
def spNMove : Sp := fun vs H Q _ => ∃ (p q a b : Addr) (as bs : List Int) (v : Nat), vs = [.ref p, .ref q, .ref a, .ref b] ∧ Rd H p (.tup ((cnt v as).map V.int)) ∧ Rd H q (.tup ((cnt v bs).map V.int)) ∧
  Rd H a (.tup (as.map V.int)) ∧ Rd H b (.tup (bs.map V.int)) ∧ as.length = bs.length ∧ InR v as ∧ InR v bs ∧ ∀ H' r, Same H H' → Told as bs r → Q r H'
theorem scNMove : FnScope ["before", "behind", "assignment", "other", "bucket", "variant", "entered"] ["before", "behind", "assignment", "other"] (defScope sNMove) := ⟨rfl, rfl, rfl, by decide +kernel, rfl, by decide +kernel, by decide +kernel⟩
theorem ok_nmove {f : Addr} {fd : FuncData} (F : DefAt K mg "needless_move" sNMove ["before", "behind", "assignment", "other"] f fd) (B : Blt mg) : FnOk P w K mg base CX0 1 f fd ["before", "behind", "assignment", "other"] spNMove := by
  refine F.1.ok scNMove (fun vs H Q E h => ?_) (fun cdv A outer s H vs Q E hr h => ?_)
  · obtain ⟨p, q, a, b, as, bs, v, rfl, _⟩ := h
    rfl
  · obtain ⟨p, q, a, b, as, bs, v, rfl, hp, hq, ha, hb, hl, ra, rb, k⟩ := h
    have nd := scNMove.nd
    refine ⟨_, pss_cons (ps_for PassesOwn.never rfl (pi_enumT (by rfl) B.enumerate (pa_cons (pv 2) pa_nil))
        (pg_tup rfl (pgs_cons (pg_name (i := 4) nd rfl (.inl rfl)) (pgs_cons (pg_name (i := 5) nd rfl (.inl rfl)) pgs_nil)))
        (pss_cons (ps_set (i := 6) nd rfl (.inl rfl) (pe_ix ix_tup (pv 3) (pv 4) (fun _ _ => rfl)))
        (pss_one (ps_if (pt_cmpR op_ne (pv 5) (pv 6) (nomark _))
          (pss_cons (ps_if (pt_cmpR op_ge (pe_ix ix_tup (pv 1) (pv 5) (fun _ _ => rfl)) (pe_ix ix_tup (pv 0) (pv 5) (fun _ _ => rfl)) (nomark _)) (pss_one (ps_ret (pe_tup (pa_cons (pv 4) (pa_cons pe_str pa_nil))))) pss_nil)
          (pss_one (ps_if (pt_cmpR op_le (pe_ix ix_tup (pv 1) (pv 6) (fun _ _ => rfl)) (pe_ix ix_tup (pv 0) (pv 6) (fun _ _ => rfl)) (nomark _)) (pss_one (ps_ret (pe_tup (pa_cons (pv 4) (pa_cons pe_str pa_nil))))) pss_nil))) pss_nil))))
      (pss_one (ps_ret pe_non)), ?_⟩
    refine ⟨_, rfl, a, _, rfl, rd_sq ha, ?_⟩
    refine for_it walk_enumT (fun i σ H' => Same H H' ∧ (∃ y4 y5 y6, σ = [some (.ref p), some (.ref q), some (.ref a), some (.ref b), y4, y5, y6]) ∧
        ∀ (j : Nat) (x y : Int), j < i → as[j]? = some x → bs[j]? = some y → x ≠ y → bs.count x < as.count x ∧ as.count y < bs.count y) ⟨Same.refl _, ⟨_, _, _, rfl⟩, fun j x y hj => absurd hj (Nat.not_lt_zero _)⟩
      (fun i σ H' _ pv => rd_sq (same_rd pv.1 ha)) ?_ ?_
    · rintro i u σ H1 H2 hi ⟨sm, ⟨y4, y5, y6, rfl⟩, hg⟩ ⟨T, x0, y0, rfl, nT, rfl, e0, e1⟩
      have e0 : V.int (i : Int) = x0 := Option.some.inj e0
      subst e0
      obtain ⟨x, hx, rfl⟩ := get_map e1
      have hil : i < bs.length := by rw [List.length_map] at hi; omega
      have hy : bs[i]? = some bs[i] := List.getElem?_eq_getElem hil
      have bx := ra x (List.mem_of_getElem? hx)
      have by_ := rb _ (List.mem_of_getElem? hy)
      generalize bs[i] = y at hy by_
      have smT : Same H (upd H1 T (.tup [.int (i : Int), .int x])) := sm.trans (same_upd nT)
      refine ⟨T, [.int (i : Int), .int x], rfl, SqT.of upd_same, rfl, _, _, rfl, _, _, rfl, rfl, ?_⟩
      refine ⟨_, rfl, _, rfl, b, _, _, _, rfl, rfl, rd_sq (same_rd smT hb), at_int (by omega) (by simpa using hy), ?_⟩
      refine ⟨_, rfl, _, rfl, rfl, _, rfl, ?_⟩
      by_cases hxy : x = y
      · subst hxy
        refine iteNS rfl ⟨smT, ⟨_, _, _, rfl⟩, fun j x' y' hj h1 h2 hn => ?_⟩
        by_cases hji : j = i
        · subst hji
          rw [hx] at h1
          rw [hy] at h2
          exact absurd ((Option.some.inj h1).symm.trans (Option.some.inj h2)) hn
        · exact hg j x' y' (by omega) h1 h2 hn
      · have hd : (!decide (V.int x = V.int y)) = true := by
          rw [decide_eq_false (fun z => hxy (V.int.inj z))]
          rfl
        refine iteC hd ?_
        have out : ∀ H' (t : Addr), Same H H' → ¬ (bs.count x < as.count x ∧ as.count y < bs.count y) → Q (.ref t) H' := fun H' t s3 hno =>
          k _ _ s3 (.inr ⟨(fun z => by cases z), fun g => hno (g i x y hx hy hxy)⟩)
        refine ⟨_, rfl, _, rfl, q, _, _, _, rfl, rfl, rd_sq (same_rd smT hq), at_cnt bx, _, rfl, _, rfl, p, _, _, _, rfl, rfl, rd_sq (same_rd smT hp), at_cnt bx, _, _, rfl, rfl, _, rfl, iteB (fun hc => ?_) (fun hc => ?_)⟩
        · have hc' : ((as.count x : Nat) : Int) ≤ ((bs.count x : Nat) : Int) := of_decide_eq_true hc
          refine ⟨_, rfl, by show 2 ≤ sizeLine; decide, fun t nt => out _ t (smT.trans (same_upd nt)) (fun z => ?_)⟩
          omega
        · have hc' : ¬ ((as.count x : Nat) : Int) ≤ ((bs.count x : Nat) : Int) := of_decide_eq_false hc
          refine ⟨_, rfl, _, rfl, q, _, _, _, rfl, rfl, rd_sq (same_rd smT hq), at_cnt by_, _, rfl, _, rfl, p, _, _, _, rfl, rfl, rd_sq (same_rd smT hp), at_cnt by_, _, _, rfl, rfl, _, rfl, iteB (fun hd => ?_) (fun hd => ?_)⟩
          · have hd' : ((bs.count y : Nat) : Int) ≤ ((as.count y : Nat) : Int) := of_decide_eq_true hd
            refine ⟨_, rfl, by show 2 ≤ sizeLine; decide, fun t nt => out _ t (smT.trans (same_upd nt)) (fun z => ?_)⟩
            omega
          · have hd' : ¬ ((bs.count y : Nat) : Int) ≤ ((as.count y : Nat) : Int) := of_decide_eq_false hd
            refine ⟨smT, ⟨_, _, _, rfl⟩, fun j x' y' hj h1 h2 hn => ?_⟩
            by_cases hji : j = i
            · subst hji
              rw [hx] at h1
              rw [hy] at h2
              have z1 := Option.some.inj h1
              have z2 := Option.some.inj h2
              subst z1 z2
              omega
            · exact hg j x' y' (by omega) h1 h2 hn
    · rintro σ H1 ⟨sm, _, hg⟩
      refine k _ _ sm (.inl ⟨rfl, fun i x y hx hy hn => hg i x y ?_ hx hy hn⟩)
      rw [List.length_map]
      exact (List.getElem?_eq_some_iff.mp hx).1
end
end K17
namespace K17
open PySem PySem.Spec PyProof.Rows L2
section
variable {P : Program} {w : World} {K : PySem.W.Frag} {mg : Str → Option Value} {base : Heap}
/-! ### first_needless, needless, is_minimal -/
/-- two assignments of as many buckets to v variants -/
structure Two (H : Hp) (v : Nat) (a b : Addr) (as bs : List Int) : Prop where
  ta : TupD H a (as.map V.int)
  tb : TupD H b (bs.map V.int)
  len : as.length = bs.length
  ra : InR v as
  rb : InR v bs
  hv : v ≤ 5
  v1 : 1 ≤ v
  hn : as.length ≤ 20
theorem Two.same {H H' : Hp} {v : Nat} {a b : Addr} {as bs : List Int} (t : Two H v a b as bs) (sm : Same H H') : Two H' v a b as bs :=
  ⟨same_tupD sm t.ta, same_tupD sm t.tb, t.len, t.ra, t.rb, t.hv, t.v1, t.hn⟩
def spFirstN : Sp := fun vs H Q _ => ∃ (a b : Addr) (as bs : List Int) (v : Nat), vs = [.int (v : Int), .ref a, .ref b] ∧ Two H v a b as bs ∧ ∀ H' r, Same H H' → Told as bs r → Q r H'
theorem scFirstN : FnScope ["variants", "assignment", "other"] ["variants", "assignment", "other"] (defScope sFirstN) := ⟨rfl, rfl, rfl, by decide +kernel, rfl, by decide +kernel, by decide +kernel⟩
theorem ok_firstn {f : Addr} {fd : FuncData} (F : DefAt K mg "first_needless" sFirstN ["variants", "assignment", "other"] f fd) (C1 : Cal P w K mg base 1 "counts_of" ["assignment", "variants"] spCounts) (C2 : Cal P w K mg base 1 "needless_move" ["before", "behind", "assignment", "other"] spNMove) : FnOk P w K mg base CX0 2 f fd ["variants", "assignment", "other"] spFirstN := by
  obtain ⟨f1, fd1, G1, g1, kp1, b1⟩ := C1
  obtain ⟨f2, fd2, G2, g2, kp2, b2⟩ := C2
  refine F.1.ok scFirstN (fun vs H Q E h => ?_) (fun cdv A outer s H vs Q E hr h => ?_)
  · obtain ⟨a, b, as, bs, v, rfl, _⟩ := h
    rfl
  · obtain ⟨a, b, as, bs, v, rfl, t, k⟩ := h
    refine ⟨_, pss_one (ps_ret (pe_call G2 hr (by rfl) g2 kp2 b2 .nil pass0 (pa_cons (pe_call G1 hr (by rfl) g1 kp1 b1 .nil pass0 (pa_cons (pv 1) (pa_cons (pv 0) pa_nil)))
      (pa_cons (pe_call G1 hr (by rfl) g1 kp1 b1 .nil pass0 (pa_cons (pv 2) (pa_cons (pv 0) pa_nil))) (pa_cons (pv 1) (pa_cons (pv 2) pa_nil)))))), ?_⟩
    refine ⟨_, rfl, _, rfl, a, as, v, rfl, t.ta, t.hv, fun H1 p sm1 np hp => ?_⟩
    have t1 := t.same sm1
    refine ⟨_, rfl, _, rfl, b, bs, v, rfl, t1.tb, t1.hv, fun H2 q sm2 nq hq => ?_⟩
    have t2 := t1.same sm2
    refine ⟨_, rfl, _, rfl, p, q, a, b, as, bs, v, rfl, .inl (sm2 _ _ hp), .inl hq, t2.ta.rd, t2.tb.rd, t.len, t.ra, t.rb, fun H3 r sm3 => k H3 r (sm1.trans (sm2.trans sm3))⟩
theorem scNeedless : FnScope ["variants", "assignment", "other"] ["variants", "assignment", "other"] (defScope sNeedless) := ⟨rfl, rfl, rfl, by decide +kernel, rfl, by decide +kernel, by decide +kernel⟩
theorem ok_needless {f : Addr} {fd : FuncData} (F : DefAt K mg "needless" sNeedless ["variants", "assignment", "other"] f fd) (B : Blt mg) (T : Cst mg) (C1 : Cal P w K mg base 2 "check_variants" ["variants"] spChkVar) (C2 : Cal P w K mg base 3 "is_assignment" ["value", "variants", "buckets"] spIsAssign)
    (C3 : Cal P w K mg base 2 "first_needless" ["variants", "assignment", "other"] spFirstN) : FnOk P w K mg base CX0 4 f fd ["variants", "assignment", "other"] spFirstN := by
  obtain ⟨f1, fd1, G1, g1, kp1, b1⟩ := C1
  obtain ⟨f2, fd2, G2, g2, kp2, b2⟩ := C2
  obtain ⟨f3, fd3, G3, g3, kp3, b3⟩ := C3
  obtain ⟨tb, hmb⟩ := T.mb
  refine F.1.ok scNeedless (fun vs H Q E h => ?_) (fun cdv A outer s H vs Q E hr h => ?_)
  · obtain ⟨a, b, as, bs, v, rfl, _⟩ := h
    rfl
  · obtain ⟨a, b, as, bs, v, rfl, t, k⟩ := h
    refine ⟨_, pss_cons (ps_expr (pe_call G1 (hr.mono (by decide)) (by rfl) g1 kp1 b1 .nil pass0 (pa_cons (pv 0) pa_nil)))
      (pss_cons (ps_if (PW.pt (pw_or (pt_not (pt_val (pe_callB call_isi (by rfl) B.isinstance (by decide +kernel) (pa_cons (pv 1) (pa_cons (pe_bltn (v := .ty "tuple") (by rfl) B.tuple (by decide +kernel) rfl) pa_nil)))))
        (pw_or1 (pt_cmpR op_gt (pe_callB call_len (by rfl) B.len (by decide +kernel) (pa_cons (pv 1) pa_nil)) (pe_glob (v := .int 20) rfl hmb ⟨_, rfl⟩) (nomark _))))) (pss_one ps_never) pss_nil)
      (pss_cons (ps_if (pt_not (pt_val (pe_call G2 hr (by rfl) g2 kp2 b2 .nil pass0 (pa_cons (pv 1) (pa_cons (pv 0) (pa_cons (pe_callB call_len (by rfl) B.len (by decide +kernel) (pa_cons (pv 1) pa_nil)) pa_nil)))))) (pss_one ps_never) pss_nil)
      (pss_cons (ps_if (pt_not (pt_val (pe_call G2 hr (by rfl) g2 kp2 b2 .nil pass0 (pa_cons (pv 2) (pa_cons (pv 0) (pa_cons (pe_callB call_len (by rfl) B.len (by decide +kernel) (pa_cons (pv 1) pa_nil)) pa_nil)))))) (pss_one ps_never) pss_nil)
      (pss_one (ps_ret (pe_call G3 (hr.mono (by decide)) (by rfl) g3 kp3 b3 .nil pass0 (pa_cons (pv 0) (pa_cons (pv 1) (pa_cons (pv 2) pa_nil))))))))), ?_⟩
    have v1 := t.v1
    have v5 := t.hv
    have hn := t.hn
    have hl := t.len
    refine ⟨_, rfl, (v : Int), rfl, by omega, by omega, ?_⟩
    refine ⟨_, rfl, _, _, .type "tuple", .type "tuple", true, rfl, .ty "tuple", rd_ty t.ta.rd, kit_ty (by decide +kernel), true, rfl, iteF ?_⟩
    refine ⟨_, rfl, _, _, rfl, .inr ⟨_, t.ta.sq, rfl⟩, _, _, rfl, rfl, false, ?_, iteF ?_⟩
    · show V.bl (decide (20 < (((as.map V.int).length : Nat) : Int))) = V.bl false
      rw [List.length_map, decide_eq_false (by omega)]
    refine ⟨_, rfl, _, rfl, _, rfl, _, _, rfl, .inr ⟨_, t.ta.sq, rfl⟩, a, as, v, ?_, t.ta.rd, t.ra, hn, fun H1 sm1 => ⟨true, rfl, iteF ?_⟩⟩
    · rw [List.length_map]
      rfl
    have t1 := t.same sm1
    refine ⟨_, rfl, _, rfl, _, rfl, _, _, rfl, .inr ⟨_, t1.ta.sq, rfl⟩, b, bs, v, ?_, t1.tb.rd, t.rb, by omega, fun H2 sm2 => ⟨true, rfl, iteF ?_⟩⟩
    · rw [List.length_map, hl]
      rfl
    have t2 := t1.same sm2
    exact ⟨_, rfl, _, rfl, _, rfl, a, b, as, bs, v, rfl, t2, fun H3 r sm3 => k H3 r (sm1.trans (sm2.trans sm3))⟩
def spMinimal : Sp := fun vs H Q _ => ∃ (a b : Addr) (as bs : List Int) (v : Nat), vs = [.int (v : Int), .ref a, .ref b] ∧ Two H v a b as bs ∧ ∀ H' r, Same H H' → (r = true ↔ Good as bs) → Q (.bl r) H'
theorem scMinimal : FnScope ["variants", "assignment", "other"] ["variants", "assignment", "other"] (defScope sMinimal) := ⟨rfl, rfl, rfl, by decide +kernel, rfl, by decide +kernel, by decide +kernel⟩
theorem ok_minimal {f : Addr} {fd : FuncData} (F : DefAt K mg "is_minimal" sMinimal ["variants", "assignment", "other"] f fd) (C1 : Cal P w K mg base 4 "needless" ["variants", "assignment", "other"] spFirstN) : FnOk P w K mg base CX0 5 f fd ["variants", "assignment", "other"] spMinimal := by
  obtain ⟨f1, fd1, G1, g1, kp1, b1⟩ := C1
  refine F.1.ok scMinimal (fun vs H Q E h => ?_) (fun cdv A outer s H vs Q E hr h => ?_)
  · obtain ⟨a, b, as, bs, v, rfl, _⟩ := h
    rfl
  · obtain ⟨a, b, as, bs, v, rfl, t, k⟩ := h
    refine ⟨_, pss_one (ps_ret (pe_cmp (pc_isN (pe_call G1 hr (by rfl) g1 kp1 b1 .nil pass0 (pa_cons (pv 0) (pa_cons (pv 1) (pa_cons (pv 2) pa_nil))))) rfl)), ?_⟩
    refine ⟨_, rfl, _, rfl, _, rfl, a, b, as, bs, v, rfl, t, fun H1 r sm1 ht => ?_⟩
    refine k _ _ sm1 ?_
    rw [decide_eq_true_eq]
    rcases ht with ⟨e, g⟩ | ⟨e, g⟩
    · exact ⟨fun _ => g, fun _ => e⟩
    · exact ⟨fun z => absurd z e, fun z => absurd z g⟩
end
end K17
namespace K17
open PySem PySem.Spec PyProof.Rows L2
section
variable {P : Program} {w : World} {K : PySem.W.Frag} {mg : Str → Option Value} {base : Heap}
/-! ### the stream -/
/-- a stream stands at p: the list of a list of numbers, a number, a place -/
def StrAt (H : Hp) (p l : Addr) : Prop := ∃ (ns : List Int) (v k : Int), H p = some (.lst [.ref l, .int v, .int k]) ∧ H l = some (.lst (ns.map V.int)) ∧ 0 ≤ k
/-- all that stood stands, but for what stands at p -/
def But (p : Addr) (H H' : Hp) : Prop := ∀ b o, b ≠ p → H b = some o → H' b = some o
theorem But.refl (p : Addr) (H : Hp) : But p H H := fun _ _ _ h => h
theorem But.trans {p : Addr} {H H1 H2 : Hp} (a : But p H H1) (b : But p H1 H2) : But p H H2 := fun c o n h => b c o n (a c o n h)
theorem But.of {p : Addr} {H H' : Hp} (a : Same H H') : But p H H' := fun c o _ h => a c o h
theorem But.upd {p : Addr} {H : Hp} {o : HO} : But p H (upd H p o) := fun c x n h => by
  rw [upd_ne n]
  exact h
theorem strAt_same {H H' : Hp} {p l : Addr} (s : StrAt H p l) (e : Same H H') : StrAt H' p l := by
  obtain ⟨ns, v, k, h1, h2, h3⟩ := s
  exact ⟨ns, v, k, e _ _ h1, e _ _ h2, h3⟩
theorem strAt_upd {H : Hp} {p l D : Addr} {o : HO} (s : StrAt H p l) (hp : D ≠ p) (hl : D ≠ l) : StrAt (upd H D o) p l := by
  obtain ⟨ns, v, k, h1, h2, h3⟩ := s
  exact ⟨ns, v, k, by rw [upd_ne hp.symm]; exact h1, by rw [upd_ne hl.symm]; exact h2, h3⟩
theorem strAt_there {H : Hp} {p l : Addr} (s : StrAt H p l) : (∃ o, H p = some o) ∧ ∃ o, H l = some o := by
  obtain ⟨ns, v, k, h1, h2, h3⟩ := s
  exact ⟨⟨_, h1⟩, _, h2⟩
theorem ne_new {H : Hp} {p D : Addr} (h : ∃ o, H p = some o) (hD : H D = Option.none) : D ≠ p := by
  obtain ⟨o, h⟩ := h
  exact (ne_of_none h hD).symm
theorem strAt_ne {H : Hp} {p l q : Addr} {xs : List Int} (s : StrAt H p l) (h : H q = some (.lst (xs.map V.int))) : q ≠ p := by
  obtain ⟨ns, v, k, h1, _, _⟩ := s
  refine ne_of h h1 fun z => ?_
  injection z with z
  cases xs with
  | nil => cases z
  | cons x r => cases z
theorem strAt_neT {H : Hp} {p l q : Addr} {xs : List V} (s : StrAt H p l) (h : Rd H q (.tup xs)) : q ≠ p := by
  obtain ⟨ns, v, k, h1, _, _⟩ := s
  rcases h with h | ⟨o, h⟩
  · exact ne_of h h1 (by intro z; cases z)
  · exact ne_of h h1 (by intro z; cases z)
def spStream (K : PySem.W.Frag) : Sp := fun vs H Q _ => ∃ (a : Addr) (ns : List Int), vs = [.ref a] ∧ SqL K H a (ns.map V.int) ∧ ∀ H' p l, Same H H' → StrAt H' p l → Q (.ref p) H'
theorem scStream : FnScope ["_law_script"] ["_law_script"] (defScope sStream) := ⟨rfl, rfl, rfl, by decide +kernel, rfl, by decide +kernel, by decide +kernel⟩
theorem ok_stream {f : Addr} {fd : FuncData} (F : DefAt K mg "_law_stream" sStream ["_law_script"] f fd) (B : Blt mg) : FnOk P w K mg base CX0 1 f fd ["_law_script"] (spStream K) := by
  refine F.1.ok scStream (fun vs H Q E h => ?_) (fun cdv A outer s H vs Q E hr h => ?_)
  · obtain ⟨a, ns, rfl, _⟩ := h
    rfl
  · obtain ⟨a, ns, rfl, hS, k⟩ := h
    refine ⟨_, pss_one (ps_ret (pe_lst (pa_cons (pe_callTy call_list_of (by rfl) B.list (by decide +kernel) (pa_cons (pv 0) pa_nil)) (pa_cons pe_int (pa_cons pe_int pa_nil))))), ?_⟩
    refine ⟨_, rfl, _, _, rfl, .inl hS, fun l nl => ⟨by show 3 ≤ sizeLine; decide, fun p np => ?_⟩⟩
    have npl : l ≠ p := fun e => by
      rw [← e, upd_same] at np
      cases np
    exact k _ p l ((same_upd nl).trans (same_upd np)) ⟨ns, 0, 0, upd_same, by rw [upd_ne npl, upd_same], Int.le_refl _⟩
/-- the next digit: some number below many -/
def spNext : Sp := fun vs H Q _ => ∃ (p l : Addr) (m : Int), vs = [.ref p, .int m] ∧ StrAt H p l ∧ 0 < m ∧ m < 1000 ∧ ∀ H' d, 0 ≤ d → d < m → But p H H' → StrAt H' p l → Q (.int d) H'
theorem scNext : FnScope ["_law_stream_here", "_law_many", "_law_k", "_law_cell", "_law_digit"] ["_law_stream_here", "_law_many"] (defScope sNext) := ⟨rfl, rfl, rfl, by decide +kernel, rfl, by decide +kernel, by decide +kernel⟩
theorem ok_next {f : Addr} {fd : FuncData} (F : DefAt K mg "_law_next" sNext ["_law_stream_here", "_law_many"] f fd) (B : Blt mg) : FnOk P w K mg base CX0 1 f fd ["_law_stream_here", "_law_many"] spNext := by
  refine F.1.ok scNext (fun vs H Q E h => ?_) (fun cdv A outer s H vs Q E hr h => ?_)
  · obtain ⟨p, l, m, rfl, _⟩ := h
    rfl
  · obtain ⟨p, l, m, rfl, ⟨ns, v, k, hp, hL, hk⟩, m0, m1, q⟩ := h
    have nd := scNext.nd
    refine ⟨_, C8.pss_cut (ps_if (pt_cmpR op_eq (pe_ix ix_list (pv 0) pe_int (fun _ _ => rfl)) pe_int (nomark _))
        (pss_cons (ps_set (i := 2) nd rfl (.inl rfl) (pe_ix ix_list (pv 0) pe_int (fun _ _ => rfl)))
        (pss_cons (ps_set (i := 3) nd rfl (.inl rfl) (pe_op op_add pe_int (pv 2)))
        (C8.pss_cut (ps_if (pt_cmpR op_lt (pv 2) (pe_callB call_len (by rfl) B.len (by decide +kernel) (pa_cons (pe_ix ix_list (pv 0) pe_int (fun _ _ => rfl)) pa_nil)) (nomark _))
          (pss_one (ps_set (i := 3) nd rfl (.inl rfl) (pe_callB call_abs (by rfl) B.abs (by decide +kernel) (pa_cons (pe_ix ix_list (pe_ix ix_list (pv 0) pe_int (fun _ _ => rfl)) (pv 2) (fun _ _ => rfl)) pa_nil)))) pss_nil)
        (C8.pss_cut (ps_if (pt_cmpR op_lt (pv 3) (pe_op op_pow pe_int pe_int) (nomark _))
          (pss_cons (ps_set (i := 3) nd rfl (.inl rfl) (pe_op op_mod (pe_callTy call_int1 (by rfl) B.int (by decide +kernel) (pa_cons (pe_op op_add (pe_op op_add (pe_op op_mul (pv 3) pe_int) (pe_op op_mul (pv 2) pe_int)) pe_int) pa_nil)) pe_int))
          (pss_one (ps_set (i := 3) nd rfl (.inl rfl) (pe_op op_add (pe_op op_mul (pe_op op_mod (pe_callTy call_int1 (by rfl) B.int (by decide +kernel) (pa_cons (pe_op op_add (pe_op op_mul (pv 3) pe_int) pe_int) pa_nil)) pe_int) pe_int) (pv 3))))) pss_nil)
        (pss_cons (ps_asg (pv 3) (pg_sub (pv 0) pe_int set_list))
        (pss_one (ps_asg (pe_op op_add (pv 2) pe_int) (pg_sub (pv 0) pe_int set_list)))))))) pss_nil)
      (pss_cons (ps_set (i := 4) nd rfl (.inl rfl) (pe_op op_mod (pe_callTy call_int1 (by rfl) B.int (by decide +kernel) (pa_cons (pe_ix ix_list (pv 0) pe_int (fun _ _ => rfl)) pa_nil)) (pv 1)))
      (pss_cons (ps_asg (pe_op op_fdiv (pe_ix ix_list (pv 0) pe_int (fun _ _ => rfl)) (pv 1)) (pg_sub (pv 0) pe_int set_list))
      (pss_one (ps_ret (pv 4))))), ?_⟩
    have npl : l ≠ p := strAt_ne ⟨ns, v, k, hp, hL, hk⟩ hL
    refine ⟨fun σ H' => ∃ y2 y3 y4 v' k', σ = [some (.ref p), some (.int m), y2, y3, y4] ∧ But p H H' ∧ H' p = some (.lst [.ref l, .int v', .int k']) ∧ 0 ≤ k', ?_, ?_⟩
    · refine ⟨_, rfl, p, _, _, _, rfl, rfl, SqL.of hp, rfl, rfl, _, rfl, iteB (fun _ => ?_) (fun _ => ?_)⟩
      · refine ⟨_, rfl, p, _, _, _, rfl, rfl, SqL.of hp, rfl, ?_⟩
        refine ⟨_, rfl, _, _, rfl, rfl, ?_⟩
        refine ⟨fun σ H' => ∃ c y4, σ = [some (.ref p), some (.int m), some (.int k), some (.int c), y4] ∧ 0 ≤ c ∧ H = H', ?_, ?_⟩
        · refine ⟨_, rfl, _, rfl, p, _, _, _, rfl, rfl, SqL.of hp, rfl, _, _, rfl, .inl ⟨_, SqL.of hL, rfl⟩, _, _, rfl, rfl, _, rfl, iteB (fun hc => ?_) (fun hc => ?_)⟩
          · have hc' : k < (((ns.map V.int).length : Nat) : Int) := of_decide_eq_true hc
            rw [List.length_map] at hc'
            have hi : k.toNat < ns.length := by omega
            refine ⟨_, rfl, p, _, _, _, rfl, rfl, SqL.of hp, rfl, _, rfl, l, _, _, _, rfl, rfl, SqL.of hL, at_int hk (List.getElem?_eq_getElem hi), _, rfl, ?_⟩
            refine ⟨_, _, rfl, ?_, rfl⟩
            split <;> omega
          · exact ⟨_, _, rfl, by omega, rfl⟩
        · rintro σ H' ⟨c, y4, rfl, hc0, rfl⟩
          refine ⟨fun σ H' => ∃ c y4, σ = [some (.ref p), some (.int m), some (.int k), some (.int c), y4] ∧ H = H', ?_, ?_⟩
          · refine ⟨_, rfl, _, _, rfl, rfl, ⟨by decide, by decide, by decide⟩, _, _, rfl, rfl, _, rfl, iteB (fun hc => ?_) (fun hc => ?_)⟩
            · refine ⟨_, rfl, _, _, rfl, rfl, .inr ⟨by decide, by decide⟩, _, rfl, _, _, rfl, rfl, .inr ⟨by decide, by decide⟩, _, _, rfl, rfl, _, _, rfl, rfl, .inl ⟨_, rfl, _, _, rfl, rfl, (show (0 : Int) < 2147483647 by decide), ?_⟩⟩
              refine ⟨_, rfl, _, _, rfl, rfl, .inr ⟨by decide, by decide⟩, _, _, rfl, rfl, .inl ⟨_, rfl, _, _, rfl, rfl, (show (0 : Int) < 2147483647 by decide), _, _, rfl, rfl, .inr ⟨by decide, by decide⟩, _, rfl, _, _, rfl, rfl, ?_⟩⟩
              exact ⟨_, _, rfl, rfl⟩
            · exact ⟨_, _, rfl, rfl⟩
          · rintro σ H' ⟨c, y4, rfl, rfl⟩
            refine ⟨_, rfl, _, rfl, p, _, _, 1, rfl, rfl, hp, rfl, ?_⟩
            refine ⟨_, rfl, _, _, rfl, rfl, _, rfl, p, _, _, 2, rfl, rfl, upd_same, rfl, ?_⟩
            refine ⟨_, _, _, _, _, rfl, But.upd.trans But.upd, upd_same, ?_⟩
            omega
      · exact ⟨_, _, _, v, k, rfl, But.refl _ _, hp, hk⟩
    · rintro σ H1 ⟨y2, y3, y4, v', k', rfl, hb, hp1, hk1⟩
      refine ⟨_, rfl, p, _, _, _, rfl, rfl, SqL.of hp1, rfl, .inl ⟨_, rfl, _, rfl, _, _, rfl, rfl, m0, ?_⟩⟩
      refine ⟨_, rfl, p, _, _, _, rfl, rfl, SqL.of hp1, rfl, _, rfl, _, _, rfl, rfl, ⟨m0, by omega⟩, _, rfl, p, _, _, 1, rfl, rfl, hp1, rfl, ?_⟩
      refine ⟨_, rfl, q _ _ (Int.emod_nonneg _ (by omega)) (Int.emod_lt_of_pos _ m0) (hb.trans But.upd) ⟨ns, _, _, upd_same, ?_, hk1⟩⟩
      rw [upd_ne npl]
      exact hb _ _ npl hL
/-- buckets with variants drawn -/
def spDraw : Sp := fun vs H Q _ => ∃ (p l : Addr) (v n : Nat), vs = [.ref p, .int (v : Int), .int (n : Int)] ∧ StrAt H p l ∧ 1 ≤ v ∧ v ≤ 5 ∧ n ≤ 20 ∧
  ∀ H' a ns, But p H H' → StrAt H' p l → TupD H' a (ns.map V.int) → ns.length = n → InR v ns → Q (.ref a) H'
theorem scDraw : FnScope ["_law_stream_here", "_law_variants", "_law_buckets", "_law_k"] ["_law_stream_here", "_law_variants", "_law_buckets"] (defScope sLAssign) := ⟨rfl, rfl, rfl, by decide +kernel, rfl, by decide +kernel, by decide +kernel⟩
theorem ok_draw {f : Addr} {fd : FuncData} (F : DefAt K mg "_law_assignment" sLAssign ["_law_stream_here", "_law_variants", "_law_buckets"] f fd) (B : Blt mg) (C1 : Cal P w K mg base 1 "_law_next" ["_law_stream_here", "_law_many"] spNext) : FnOk P w K mg base CX0 2 f fd ["_law_stream_here", "_law_variants", "_law_buckets"] spDraw := by
  obtain ⟨f1, fd1, G1, g1, kp1, b1⟩ := C1
  refine F.1.ok scDraw (fun vs H Q E h => ?_) (fun cdv A outer s H vs Q E hr h => ?_)
  · obtain ⟨p, l, v, n, rfl, _⟩ := h
    rfl
  · obtain ⟨p, l, v, n, rfl, hs, v1, v5, hn, q⟩ := h
    refine ⟨_, pss_one (ps_ret (pe_callTy call_tuple_ofD (by rfl) B.tuple (by decide +kernel) (pa_cons (pe_lc (own := [("_law_k", 3)]) (g := gName 3) (tt := tYes) rfl scDraw.nd (pi_range1 rfl B.range (pa_cons (pv 2) pa_nil)) (blkOk_by (N := ["_law_stream_here", "_law_variants", "_law_buckets", "_law_k"]) (sc := defScope sLAssign) (by decide +kernel))
        (fun _ _ _ _ _ => pg_name (i := 3) scDraw.nd rfl (Or.inl rfl)) (fun _ _ _ _ _ => pts_nil)
        (fun _ _ _ _ _ => pe_call G1 hr (by rfl) g1 kp1 b1 .nil pass0 (pa_cons (pv 0) (pa_cons (pv 1) pa_nil)))) pa_nil))), ?_⟩
    refine ⟨_, rfl, _, rfl, by omega, by omega, fun D nD => ?_⟩
    have th := strAt_there hs
    have nDp := ne_new th.1 nD
    have nDl := ne_new th.2 nD
    refine lc_it walk_range (fun i H' => But p H H' ∧ StrAt H' p l ∧ ∃ ns : List Int, H' D = some (.lst (ns.map V.int)) ∧ ns.length = i ∧ InR v ns) ?_ (fun _ _ _ _ => trivial) ?_ ?_
    · exact ⟨But.of (same_upd nD), strAt_upd hs nDp nDl, [], upd_same, rfl, fun a ha => by cases ha⟩
    · rintro i x H1 H2 hi ⟨hb, h1, ns, hD, hlen, hR⟩ ⟨rfl, rfl⟩
      refine ⟨rfl, iteT (B := False) ⟨_, rfl, _, rfl, p, l, (v : Int), rfl, h1, by omega, by omega, fun H3 d d0 d1 hb3 h3 => ?_⟩⟩
      refine ⟨_, hb3 _ _ nDp hD, ?_, ?_, strAt_upd h3 nDp nDl, ns ++ [d], ?_, ?_, ?_⟩
      · rw [List.length_map]
        exact small_of (m := 20) (by simp at hi; omega)
      · intro b o hbp e
        rw [upd_ne (ne_of_none e nD)]
        exact hb3 _ _ hbp (hb _ _ hbp e)
      · rw [upd_same, List.map_append]
        rfl
      · rw [List.length_append, hlen]
        rfl
      · intro a ha
        rcases List.mem_append.mp ha with ha | ha
        · exact hR a ha
        · rw [List.mem_singleton.mp ha]
          exact ⟨d0, d1⟩
    · rintro H1 ⟨hb, h1, ns, hD, hlen, hR⟩
      refine ⟨_, _, rfl, SqL.of hD, fun a o na od => ?_⟩
      have th1 := strAt_there h1
      refine q _ a ns (hb.trans (But.of (same_upd na))) (strAt_upd h1 (ne_new th1.1 na) (ne_new th1.2 na)) ⟨o, od, upd_same⟩ ?_ hR
      rw [hlen]
      simp
/-! ### _law_order -/
theorem rg_upto (n : Nat) : rgV 0 (n : Int) = (upto n).map V.int := by
  unfold rgV upto
  rw [List.map_map, show ((n : Int) - 0).toNat = n by omega]
  refine List.map_congr_left fun i _ => ?_
  show V.int (0 + (i : Int)) = V.int (i : Int)
  rw [Int.zero_add]
theorem ixN_in {n : Nat} {d : Int} (h0 : 0 ≤ d) (h1 : d < (n : Int)) : ixN n d = some d.toNat := by
  unfold ixN
  rw [if_pos h0, if_pos h1]
theorem cons_erase : ∀ {ls : List Int} {k : Nat} {y : Int}, ls[k]? = some y → (y :: ls.eraseIdx k).Perm ls
  | [], k, y, h => by simp at h
  | a :: r, 0, y, h => by
    have e : a = y := Option.some.inj h
    subst e
    exact List.Perm.refl _
  | a :: r, k + 1, y, h => by
    have ih := cons_erase (ls := r) (k := k) (y := y) h
    exact (List.Perm.swap a y _).trans (List.Perm.cons a ih)
theorem order_step {fs ls : List Int} {n k : Nat} {y : Int} (h : (fs ++ ls).Perm (upto n)) (hy : ls[k]? = some y) : ((fs ++ [y]) ++ ls.eraseIdx k).Perm (upto n) := by
  have p := cons_erase hy
  rw [List.append_assoc]
  exact (List.Perm.append_left fs p).trans h
def spOrder : Sp := fun vs H Q _ => ∃ (p l : Addr) (n : Nat), vs = [.ref p, .int (n : Int)] ∧ StrAt H p l ∧ n ≤ 20 ∧ ∀ H' q os, But p H H' → StrAt H' p l → H' q = some (.lst (os.map V.int)) → H q = Option.none → IsOrd n os → Q (.ref q) H'
theorem scOrder : FnScope ["_law_stream_here", "_law_many", "_law_left", "_law_found", "_law_k"] ["_law_stream_here", "_law_many"] (defScope sLOrder) := ⟨rfl, rfl, rfl, by decide +kernel, rfl, by decide +kernel, by decide +kernel⟩
theorem ok_order {f : Addr} {fd : FuncData} (F : DefAt K mg "_law_order" sLOrder ["_law_stream_here", "_law_many"] f fd) (B : Blt mg) (C1 : Cal P w K mg base 1 "_law_next" ["_law_stream_here", "_law_many"] spNext) : FnOk P w K mg base CX0 2 f fd ["_law_stream_here", "_law_many"] spOrder := by
  obtain ⟨f1, fd1, G1, g1, kp1, b1⟩ := C1
  refine F.1.ok scOrder (fun vs H Q E h => ?_) (fun cdv A outer s H vs Q E hr h => ?_)
  · obtain ⟨p, l, n, rfl, _⟩ := h
    rfl
  · obtain ⟨p, l, n, rfl, hs, hn, q⟩ := h
    have nd := scOrder.nd
    refine ⟨_, pss_cons (ps_set (i := 2) nd rfl (.inl rfl) (pe_listRg rfl (by rfl) B.list (prg_1 (by rfl) B.range (pv 1))))
      (pss_cons (ps_set (i := 3) nd rfl (.inl rfl) (pe_lst pa_nil))
      (pss_cons (ps_for PassesOwn.never rfl (pi_range1 rfl B.range (pa_cons (pv 1) pa_nil)) (pg_name (i := 4) nd rfl (.inl rfl))
        (pss_one (ps_expr (pe_bm PySem.F.plainAttrs_list PySem.F.slot_list_append PySem.F.type_list_append mt_append (pv 3)
          (pa_cons (pe_bm PySem.F.plainAttrs_list PySem.F.slot_list_pop PySem.F.type_list_pop mt_popAt (pv 2)
            (pa_cons (pe_call G1 hr (by rfl) g1 kp1 b1 .nil pass0 (pa_cons (pv 0) (pa_cons (pe_callB call_len (by rfl) B.len (by decide +kernel) (pa_cons (pv 2) pa_nil)) pa_nil))) pa_nil)) pa_nil)))))
      (pss_one (ps_ret (pv 3))))), ?_⟩
    refine ⟨_, rfl, _, rfl, RgOk.of_le (by omega) (by omega) (by omega) (by omega), fun a na => ?_⟩
    refine ⟨Nat.zero_le _, fun b nb => ?_⟩
    have th := strAt_there hs
    have nap := ne_new th.1 na
    have nal := ne_new th.2 na
    have nba : b ≠ a := fun e => by
      rw [e, upd_same] at nb
      cases nb
    have nb0 : H b = Option.none := by
      rw [upd_ne nba] at nb
      exact nb
    have nbp := ne_new th.1 nb0
    have nbl := ne_new th.2 nb0
    refine ⟨_, rfl, _, rfl, by omega, by omega, ?_⟩
    refine for_it walk_range (fun i σ H' => (∃ y, σ = [some (.ref p), some (.int (n : Int)), some (.ref a), some (.ref b), y]) ∧ But p H H' ∧ StrAt H' p l ∧
        ∃ ls fs : List Int, H' a = some (.lst (ls.map V.int)) ∧ H' b = some (.lst (fs.map V.int)) ∧ (fs ++ ls).Perm (upto n) ∧ fs.length = i) ?_ (fun _ _ _ _ _ => trivial) ?_ ?_
    · refine ⟨⟨_, rfl⟩, But.of ((same_upd na).trans (same_upd nb)), strAt_upd (strAt_upd hs nap nal) nbp nbl, upto n, [], ?_, ?_, ?_, rfl⟩
      · rw [upd_ne nba.symm, upd_same, rg_upto]
      · rw [upd_same]
        rfl
      · exact List.Perm.refl _
    · rintro i x σ H1 H2 hi ⟨⟨y, rfl⟩, hb, h1, ls, fs, hla, hfb, hp, hlen⟩ ⟨rfl, rfl⟩
      have hll : ls.length = n - i := by
        have q1 := hp.length_eq
        rw [List.length_append, upto_length] at q1
        omega
      have hi' : i < n := by simpa using hi
      refine ⟨_, rfl, .inl ⟨rfl, _, SqL.of hfb⟩, _, rfl, .inl ⟨rfl, _, SqL.of hla⟩, _, rfl, _, rfl, _, _, rfl, .inl ⟨_, SqL.of hla, rfl⟩, p, l, _, rfl, h1, ?_, ?_, fun H3 d d0 d1 hb3 h3 => ?_⟩
      · rw [List.length_map]
        omega
      · rw [List.length_map]
        omega
      rw [List.length_map] at d1
      have hdl : d.toNat < ls.length := by omega
      have hy : ls[d.toNat]? = some ls[d.toNat] := List.getElem?_eq_getElem hdl
      generalize ls[d.toNat] = z at hy
      have hla3 := hb3 _ _ nap hla
      have hfb3 := hb3 _ _ nbp hfb
      refine ⟨a, _, d, d.toNat, .int z, rfl, rfl, hla3, by omega, by omega, ?_, ?_, ?_⟩
      · rw [List.length_map]
        exact (ixN_seq (ixN_in d0 (by omega))).1
      · rw [List.getElem?_map, hy]
        rfl
      have hfb4 : (upd H3 a (.lst ((ls.map V.int).eraseIdx d.toNat))) b = some (.lst (fs.map V.int)) := by
        rw [upd_ne nba]
        exact hfb3
      refine ⟨b, _, _, rfl, rfl, hfb4, ?_, ?_⟩
      · rw [List.length_map]
        exact small_of (m := 20) (by omega)
      refine ⟨⟨_, rfl⟩, ?_, strAt_upd (strAt_upd h3 nap nal) nbp nbl, ls.eraseIdx d.toNat, fs ++ [z], ?_, ?_, order_step hp hy, ?_⟩
      · intro c o hcp e
        rw [upd_ne (ne_of_none e nb0), upd_ne (ne_of_none e na)]
        exact hb3 _ _ hcp (hb _ _ hcp e)
      · rw [upd_ne nba.symm, upd_same, erase_mapI]
      · rw [upd_same, List.map_append]
        rfl
      · rw [List.length_append, hlen]
        rfl
    · rintro σ H1 ⟨⟨y, rfl⟩, hb, h1, ls, fs, hla, hfb, hp, hlen⟩
      have hln : ls = [] := by
        have q1 := hp.length_eq
        rw [List.length_append, upto_length, hlen] at q1
        simp only [Int.toNat_natCast] at q1
        exact List.length_eq_zero_iff.mp (by omega)
      rw [hln, List.append_nil] at hp
      exact ⟨_, rfl, q _ b fs hb h1 hfb nb0 hp⟩
end
end K17
namespace K17
open PySem PySem.Spec PyProof.Rows L2
section
variable {P : Program} {w : World} {K : PySem.W.Frag} {mg : Str → Option Value} {base : Heap}
/-! ### the law's own counts, transfer, churn -/
def lcScope : Expr → Scope
  | .ListComp _ _ sc _ => sc
  | _ => { kind := .function, names := [], isGenerator := false, isCoroutine := false }
def retArg : List Stmt → Expr
  | [.Return (some (.Call _ [e] _ _)) _] => e
  | _ => .Constant .none 0 ⟨0, 0, 0, 0⟩
def spLCounts : Sp := fun vs H Q _ => ∃ (a : Addr) (ns : List Int) (v : Nat), vs = [.ref a, .int (v : Int)] ∧ Rd H a (.tup (ns.map V.int)) ∧ v ≤ 5 ∧ ns.length ≤ 20 ∧ ∀ H' p, Same H H' → H p = Option.none → H' p = some (.tup ((cnt v ns).map V.int)) → Q (.ref p) H'
theorem scLCounts : FnScope ["_law_assignment_here", "_law_variants", "_law_variant", "_law_one"] ["_law_assignment_here", "_law_variants"] (defScope sLCounts) := ⟨rfl, rfl, rfl, by decide +kernel, rfl, by decide +kernel, by decide +kernel⟩
theorem ok_lcounts {f : Addr} {fd : FuncData} (F : DefAt K mg "_law_counts" sLCounts ["_law_assignment_here", "_law_variants"] f fd) (B : Blt mg) : FnOk P w K mg base CX0 1 f fd ["_law_assignment_here", "_law_variants"] spLCounts := by
  refine F.1.ok scLCounts (fun vs H Q E h => ?_) (fun cdv A outer s H vs Q E hr h => ?_)
  · obtain ⟨a, ns, v, rfl, _⟩ := h
    rfl
  · obtain ⟨a, ns, v, rfl, hT, hv, hlen, q⟩ := h
    have nd := scLCounts.nd
    refine ⟨_, pss_one (ps_ret (pe_callTy call_tuple_of (by rfl) B.tuple (by decide +kernel) (pa_cons (pe_lc (own := [("_law_variant", 2)]) (g := gName 2) (tt := tYes) rfl nd (pi_range1 rfl B.range (pa_cons (pv 1) pa_nil)) (blkOk_by (N := ["_law_assignment_here", "_law_variants", "_law_variant", "_law_one"]) (sc := defScope sLCounts) (by decide +kernel))
        (fun _ _ _ _ _ => pg_name (i := 2) nd rfl (Or.inr rfl)) (fun _ _ _ _ _ => pts_nil)
        (fun _ _ _ _ _ => pe_callB (r := fun xs H Q => ∃ x n, xs = [x] ∧ LenV K x H n ∧ Q (.int n) H) call_len (by rfl) B.len (by decide +kernel) (pa_cons (pe_lc (own := [("_law_one", 3)]) (wi := iTup K (tVar 0)) (g := gName 3) (tt := tTest (tOp rEq (tVar 3) (tVar 2))) (te := tVar 3) rfl nd (pi_tup (pv 0))
          (blkOk_by (own := [("_law_one", 3)]) (N := ["_law_assignment_here", "_law_variants", "_law_variant", "_law_one"]) (sc := relS (lcScope (retArg (defBody sLCounts))) (defScope sLCounts)) (by decide +kernel))
          (fun _ _ _ _ _ => pg_name (i := 3) nd rfl (Or.inl rfl)) (fun _ _ _ _ _ => pts_one (pt_cmpR op_eq (pv 3) (pv 2) (nomark _))) (fun _ _ _ _ _ => pv 3)) pa_nil))) pa_nil))), ?_⟩
    refine ⟨_, rfl, _, rfl, by omega, by omega, fun D nD => ?_⟩
    refine lc_acc walk_range nD (fun i => ((cnt v ns).map V.int).take i) rfl (fun i hi => ?_) (fun H' sm => trivial) ?_ (fun H' sm hD => ?_)
    · refine take_len (m := 5) ?_
      rw [List.length_map, cnt_length]
      exact hv
    · rintro i x H1 H2 N hi sm ⟨rfl, rfl⟩ fin skip
      refine ⟨rfl, iteT (B := False) ?_⟩
      refine ⟨_, rfl, a, rfl, ⟨_, rd_sq (same_rd sm hT)⟩, fun D2 nD2 => ?_⟩
      refine lc_acc walk_tup nD2 (fun j => ((ns.take j).filter fun z => z == (i : Int)).map V.int) rfl (fun j hj => ?_) (fun H' sm2 => rd_sq (same_rd (sm.trans sm2) hT)) ?_ (fun H' sm2 hD2 => ?_)
      · rw [List.length_map] at hj ⊢
        refine small_of (m := 20) (Nat.le_trans (List.length_filter_le _ _) ?_)
        rw [List.length_take]
        omega
      · rintro j x H3 H4 N2 hj sm2 ⟨rfl, hx⟩ fin2 skip2
        obtain ⟨n, hn, rfl⟩ := get_map hx
        refine ⟨rfl, _, rfl, _, rfl, rfl, _, rfl, iteB (fun hc => ?_) (fun hc => ?_)⟩
        · have hc' : n = 0 + (i : Int) := V.int.inj (of_decide_eq_true hc)
          refine ⟨_, rfl, fin2 _ _ ?_ (Same.refl _)⟩
          rw [take_step (ys := ns) hn, List.filter_append, List.map_append, List.filter_cons_of_pos (by rw [hc']; simp)]
          rfl
        · have hc' : ¬ n = 0 + (i : Int) := fun z => of_decide_eq_false hc (by rw [z])
          refine skip2 ?_ _ (Same.refl _)
          rw [take_step (ys := ns) hn, List.filter_append, List.map_append, List.filter_cons_of_neg (by
            intro z
            exact hc' (by rw [Int.zero_add]; exact eq_of_beq z))]
          simp
      · refine ⟨_, _, rfl, .inl ⟨_, SqL.of hD2, rfl⟩, fin _ _ (take_step ?_) sm2⟩
        rw [List.getElem?_map, cnt_get (by simpa using hi), List.length_map, List.length_map, List.take_of_length_le (Nat.le_refl _), List.count_eq_length_filter]
        rfl
    · refine ⟨_, _, rfl, .inl ⟨SqL.of hD, fun l nl => ?_⟩⟩
      refine q _ l (fun b o e => ?_) (sm.free nl) ?_
      · rw [upd_ne (ne_of_none (sm _ _ e) nl)]
        exact sm _ _ e
      · rw [upd_same, List.take_of_length_le]
        rw [List.length_map, cnt_length]
        simp
def pos (p : Int × Int) : Int := if p.1 - p.2 > 0 then p.1 - p.2 else 0
theorem transfer_pos (cs ds : List Int) : transfer cs ds = ((cs.zip ds).map pos).sum := rfl
theorem zip_get {cs ds : List Int} {i : Nat} {x y : Int} (hx : cs[i]? = some x) (hy : ds[i]? = some y) : (cs.zip ds)[i]? = some (x, y) := List.getElem?_zip_eq_some.mpr ⟨hx, hy⟩
def spLTransfer : Sp := fun vs H Q _ => ∃ (a b : Addr) (cs ds : List Int), vs = [.ref a, .ref b] ∧ Rd H a (.tup (cs.map V.int)) ∧ Rd H b (.tup (ds.map V.int)) ∧ cs.length = ds.length ∧ cs.length ≤ 20 ∧ ∀ H', Same H H' → Q (.int (transfer cs ds)) H'
theorem scLTransfer : FnScope ["_law_first", "_law_second", "_law_k"] ["_law_first", "_law_second"] (defScope sLTransfer) := ⟨rfl, rfl, rfl, by decide +kernel, rfl, by decide +kernel, by decide +kernel⟩
theorem ok_ltransfer {f : Addr} {fd : FuncData} (F : DefAt K mg "_law_transfer" sLTransfer ["_law_first", "_law_second"] f fd) (B : Blt mg) : FnOk P w K mg base CX0 1 f fd ["_law_first", "_law_second"] spLTransfer := by
  refine F.1.ok scLTransfer (fun vs H Q E h => ?_) (fun cdv A outer s H vs Q E hr h => ?_)
  · obtain ⟨a, b, cs, ds, rfl, _⟩ := h
    rfl
  · obtain ⟨a, b, cs, ds, rfl, ha, hb, hl, hn, q⟩ := h
    have nd := scLTransfer.nd
    refine ⟨_, pss_one (ps_ret (pe_callB (cr_sum rfl) (by rfl) B.sum (by decide +kernel) (pa_cons (pe_lc (own := [("_law_k", 2)]) (g := gName 2) (tt := tYes) rfl nd (pi_range1 rfl B.range (pa_cons (pe_callB call_len (by rfl) B.len (by decide +kernel) (pa_cons (pv 0) pa_nil)) pa_nil)) (blkOk_by (N := ["_law_first", "_law_second", "_law_k"]) (sc := defScope sLTransfer) (by decide +kernel))
        (fun _ _ _ _ _ => pg_name (i := 2) nd rfl (Or.inl rfl)) (fun _ _ _ _ _ => pts_nil)
        (fun _ _ _ _ _ => pe_callB (call_max2 rfl) (by rfl) B.max (by decide +kernel) (pa_cons pe_int (pa_cons (pe_op op_sub (pe_ix (r := rIxT K) ix_tup (pv 0) (pv 2) (fun _ _ => rfl)) (pe_ix (r := rIxT K) ix_tup (pv 1) (pv 2) (fun _ _ => rfl))) pa_nil)))) pa_nil))), ?_⟩
    have hz : ((cs.zip ds).map pos).length = cs.length := by
      rw [List.length_map, List.length_zip]
      omega
    refine ⟨_, rfl, _, _, rfl, .inr ⟨_, rd_sq ha, rfl⟩, _, rfl, ?_, ?_, fun D nD => ?_⟩
    · omega
    · rw [List.length_map]
      omega
    refine lc_acc walk_range nD (fun i => (((cs.zip ds).map pos).map V.int).take i) rfl (fun i hi => ?_) (fun H' sm => trivial) ?_ (fun H' sm hD => ?_)
    · refine take_len (m := 20) ?_
      rw [List.length_map, hz]
      exact hn
    · rintro i x H1 H2 N hi sm ⟨rfl, rfl⟩ fin skip
      rw [List.length_map, Int.toNat_natCast] at hi
      have hx : cs[i]? = some cs[i] := List.getElem?_eq_getElem hi
      have hi2 : i < ds.length := by omega
      have hy : ds[i]? = some ds[i] := List.getElem?_eq_getElem hi2
      generalize cs[i] = x at hx
      generalize ds[i] = y at hy
      have et : (0 + (i : Int)).toNat = i := by omega
      refine ⟨rfl, iteT (B := False) ⟨_, rfl, _, rfl, a, _, _, _, rfl, rfl, rd_sq (same_rd sm ha), at_int (n := x) (by omega) (by rw [et]; exact hx), _, rfl, _, rfl, b, _, _, _, rfl, rfl, rd_sq (same_rd sm hb), at_int (n := y) (by omega) (by rw [et]; exact hy), _, _, rfl, rfl, _, _, rfl, ?_⟩⟩
      refine fin _ _ (take_step ?_) (Same.refl _)
      rw [List.getElem?_map, List.getElem?_map, zip_get hx hy]
      rfl
    · refine ⟨_, (cs.zip ds).map pos, rfl, SqL.of ?_, q _ sm⟩
      rw [hD, List.take_of_length_le]
      rw [List.length_map, hz, List.length_map]
      omega
/-- the number of places that differ -/
theorem churn_filter {as bs : List Int} (hl : as.length = bs.length) : ((List.range as.length).filter fun k => decide (as.getD k 0 ≠ bs.getD k 0)).length = churn as bs := by
  have e : as.zip bs = (List.range as.length).map fun k => (as.getD k 0, bs.getD k 0) := by
    refine List.ext_getElem? fun i => ?_
    rw [List.getElem?_map]
    by_cases h : i < as.length
    · have h2 : i < bs.length := by omega
      rw [List.getElem?_range h, zip_get (List.getElem?_eq_getElem h) (List.getElem?_eq_getElem h2)]
      show some _ = some (as.getD i 0, bs.getD i 0)
      rw [List.getD_eq_getElem?_getD, List.getD_eq_getElem?_getD, List.getElem?_eq_getElem h, List.getElem?_eq_getElem h2]
      rfl
    · rw [List.getElem?_eq_none (by rw [List.length_zip]; omega), List.getElem?_eq_none (by simpa using h)]
      rfl
  unfold churn
  rw [e, List.countP_map, List.countP_eq_length_filter]
  rfl
def spLChurn : Sp := fun vs H Q _ => ∃ (a b : Addr) (as bs : List Int), vs = [.ref a, .ref b] ∧ Rd H a (.tup (as.map V.int)) ∧ Rd H b (.tup (bs.map V.int)) ∧ as.length = bs.length ∧ as.length ≤ 20 ∧ ∀ H', Same H H' → Q (.int (churn as bs : Int)) H'
theorem scLChurn : FnScope ["_law_first", "_law_second", "_law_k"] ["_law_first", "_law_second"] (defScope sLChurn) := ⟨rfl, rfl, rfl, by decide +kernel, rfl, by decide +kernel, by decide +kernel⟩
theorem ok_lchurn {f : Addr} {fd : FuncData} (F : DefAt K mg "_law_churn" sLChurn ["_law_first", "_law_second"] f fd) (B : Blt mg) : FnOk P w K mg base CX0 1 f fd ["_law_first", "_law_second"] spLChurn := by
  refine F.1.ok scLChurn (fun vs H Q E h => ?_) (fun cdv A outer s H vs Q E hr h => ?_)
  · obtain ⟨a, b, as, bs, rfl, _⟩ := h
    rfl
  · obtain ⟨a, b, as, bs, rfl, ha, hb, hl, hn, q⟩ := h
    have nd := scLChurn.nd
    refine ⟨_, pss_one (ps_ret (pe_callB call_len (by rfl) B.len (by decide +kernel) (pa_cons (pe_lc (own := [("_law_k", 2)]) (g := gName 2) (tt := tTest (tOp rNe (tOp (rIxT K) (tVar 0) (tVar 2)) (tOp (rIxT K) (tVar 1) (tVar 2)))) rfl nd (pi_range1 rfl B.range (pa_cons (pe_callB call_len (by rfl) B.len (by decide +kernel) (pa_cons (pv 0) pa_nil)) pa_nil)) (blkOk_by (N := ["_law_first", "_law_second", "_law_k"]) (sc := defScope sLChurn) (by decide +kernel))
        (fun _ _ _ _ _ => pg_name (i := 2) nd rfl (Or.inl rfl)) (fun _ _ _ _ _ => pts_one (pt_cmpR op_ne (pe_ix (r := rIxT K) ix_tup (pv 0) (pv 2) (fun _ _ => rfl)) (pe_ix (r := rIxT K) ix_tup (pv 1) (pv 2) (fun _ _ => rfl)) (nomark _)))
        (fun _ _ _ _ _ => pv 2)) pa_nil))), ?_⟩
    refine ⟨_, rfl, _, _, rfl, .inr ⟨_, rd_sq ha, rfl⟩, _, rfl, ?_, ?_, fun D nD => ?_⟩
    · omega
    · rw [List.length_map]
      omega
    refine lc_acc walk_range nD (fun i => ((List.range i).filter fun k => decide (as.getD k 0 ≠ bs.getD k 0)).map fun k : Nat => V.int (k : Int)) rfl (fun i hi => ?_) (fun H' sm => trivial) ?_ (fun H' sm hD => ?_)
    · rw [List.length_map] at hi ⊢
      refine small_of (m := 20) (Nat.le_trans (List.length_filter_le _ _) ?_)
      rw [List.length_range]
      omega
    · rintro i x H1 H2 N hi sm ⟨rfl, rfl⟩ fin skip
      rw [List.length_map, Int.toNat_natCast] at hi
      have hx : as[i]? = some (as.getD i 0) := by rw [List.getD_eq_getElem?_getD, List.getElem?_eq_getElem hi]; rfl
      have hi2 : i < bs.length := by omega
      have hy : bs[i]? = some (bs.getD i 0) := by rw [List.getD_eq_getElem?_getD, List.getElem?_eq_getElem hi2]; rfl
      have et : (0 + (i : Int)).toNat = i := by omega
      refine ⟨rfl, _, rfl, _, rfl, a, _, _, _, rfl, rfl, rd_sq (same_rd sm ha), at_int (by omega) (by rw [et]; exact hx), _, rfl, _, rfl, b, _, _, _, rfl, rfl, rd_sq (same_rd sm hb), at_int (by omega) (by rw [et]; exact hy), rfl, _, rfl, iteB (fun hc => ?_) (fun hc => ?_)⟩
      · have hc' : as.getD i 0 ≠ bs.getD i 0 := fun z => by
          rw [z, decide_eq_true rfl] at hc
          cases hc
        refine ⟨_, rfl, fin _ _ ?_ (Same.refl _)⟩
        have e1 : [i].filter (fun k => decide (as.getD k 0 ≠ bs.getD k 0)) = [i] := by
          have e2 : decide (as.getD i 0 ≠ bs.getD i 0) = true := decide_eq_true hc'
          simp only [List.filter_cons, e2, if_true, List.filter_nil]
        rw [List.range_succ, List.filter_append, List.map_append, e1]
        show _ = _ ++ [V.int (0 + (i : Int))]
        rw [Int.zero_add]
        rfl
      · have hc' : as.getD i 0 = bs.getD i 0 := by
          refine Classical.byContradiction fun z => ?_
          rw [decide_eq_false (fun y => z (V.int.inj y))] at hc
          cases hc
        refine skip ?_ _ (Same.refl _)
        have e1 : [i].filter (fun k => decide (as.getD k 0 ≠ bs.getD k 0)) = [] := by
          have e2 : decide (as.getD i 0 ≠ bs.getD i 0) = false := decide_eq_false fun z => z hc'
          simp only [List.filter_cons, e2, Bool.false_eq_true, if_false, List.filter_nil]
        rw [List.range_succ, List.filter_append, List.map_append, e1]
        simp
    · refine ⟨_, _, rfl, .inl ⟨_, SqL.of hD, rfl⟩, ?_⟩
      have hq := q _ sm
      rw [List.length_map, List.length_map, Int.toNat_natCast, churn_filter hl]
      exact hq
/-! ### _law_renamed -/
def spRenamed : Sp := fun vs H Q _ => ∃ (a o m : Addr) (as ord nm : List Int) (v : Nat), vs = [.ref a, .ref o, .ref m] ∧ Rd H a (.tup (as.map V.int)) ∧ H o = some (.lst (ord.map V.int)) ∧ H m = some (.lst (nm.map V.int)) ∧
  IsOrd as.length ord ∧ IsOrd v nm ∧ InR v as ∧ as.length ≤ 20 ∧ ∀ H' p, Same H H' → TupD H' p ((rn as ord nm).map V.int) → Q (.ref p) H'
theorem scRenamed : FnScope ["_law_assignment_here", "_law_buckets", "_law_variants", "_law_k"] ["_law_assignment_here", "_law_buckets", "_law_variants"] (defScope sLRenamed) := ⟨rfl, rfl, rfl, by decide +kernel, rfl, by decide +kernel, by decide +kernel⟩
theorem ok_renamed {f : Addr} {fd : FuncData} (F : DefAt K mg "_law_renamed" sLRenamed ["_law_assignment_here", "_law_buckets", "_law_variants"] f fd) (B : Blt mg) : FnOk P w K mg base CX0 1 f fd ["_law_assignment_here", "_law_buckets", "_law_variants"] spRenamed := by
  refine F.1.ok scRenamed (fun vs H Q E h => ?_) (fun cdv A outer s H vs Q E hr h => ?_)
  · obtain ⟨a, o, m, as, ord, nm, v, rfl, _⟩ := h
    rfl
  · obtain ⟨a, o, m, as, ord, nm, v, rfl, ha, ho, hm, io, im, hR, hn, q⟩ := h
    have nd := scRenamed.nd
    refine ⟨_, pss_one (ps_ret (pe_callTy call_tuple_ofD (by rfl) B.tuple (by decide +kernel) (pa_cons (pe_lc (own := [("_law_k", 3)]) (g := gName 3) (tt := tYes) rfl nd (pi_list (pv 1)) (blkOk_by (N := ["_law_assignment_here", "_law_buckets", "_law_variants", "_law_k"]) (sc := defScope sLRenamed) (by decide +kernel))
        (fun _ _ _ _ _ => pg_name (i := 3) nd rfl (Or.inl rfl)) (fun _ _ _ _ _ => pts_nil)
        (fun _ _ _ _ _ => pe_ix (r := rIxL K) ix_list (pv 2) (pe_ix (r := rIxT K) ix_tup (pv 0) (pv 3) (fun _ _ => rfl)) (fun _ _ => rfl))) pa_nil))), ?_⟩
    have lo := ord_length io
    have ln := ord_length im
    refine ⟨_, rfl, o, rfl, ⟨_, SqL.of ho⟩, fun D nD => ?_⟩
    refine lc_acc walk_list nD (fun i => ((rn as ord nm).map V.int).take i) rfl (fun i hi => ?_) (fun H' sm => SqL.of (sm _ _ ho)) ?_ (fun H' sm hD => ?_)
    · refine take_len (m := 20) ?_
      rw [List.length_map, rn_length]
      omega
    · rintro i x H1 H2 N hi sm ⟨rfl, hx⟩ fin skip
      obtain ⟨k, hk, rfl⟩ := get_map hx
      have hk0 := (ord_mem io).mp (List.mem_of_getElem? hk)
      have hin := hR _ (atk_mem hk0)
      refine ⟨rfl, iteT (B := False) ⟨_, rfl, _, rfl, _, rfl, a, _, _, _, rfl, rfl, rd_sq (same_rd sm ha), at_int hk0.1 (atk_get hk0), m, _, _, _, rfl, rfl, SqL.of (sm _ _ hm), at_int hin.1 (atk_get (by omega)), ?_⟩⟩
      refine fin _ _ (take_step ?_) (Same.refl _)
      unfold rn
      rw [List.getElem?_map, List.getElem?_map, hk]
      rfl
    · refine ⟨_, _, rfl, SqL.of hD, fun t ob nt od => q _ t (sm.trans (same_upd nt)) ⟨ob, od, ?_⟩⟩
      rw [upd_same, List.take_of_length_le]
      rw [List.length_map, rn_length, List.length_map]
      omega
end
end K17
namespace K17
open PySem PySem.Spec PyProof.Rows L2
/-! ### the class Moves -/
def mf (t w l e : Addr) : List (Str × V) := putF "entering" (.ref e) (putF "leaving" (.ref l) (putF "waiting" (.ref w) (putF "assignment" (.ref t) [])))
theorem mf_e (t w l e : Addr) : (mf t w l e).lookup ("entering" : Str) = some (.ref e) := by
  unfold mf
  rw [lookup_putF, if_pos rfl]
theorem mf_l (t w l e : Addr) : (mf t w l e).lookup ("leaving" : Str) = some (.ref l) := by
  unfold mf
  rw [lookup_putF, if_neg (by decide +kernel), lookup_putF, if_pos rfl]
theorem mf_w (t w l e : Addr) : (mf t w l e).lookup ("waiting" : Str) = some (.ref w) := by
  unfold mf
  rw [lookup_putF, if_neg (by decide +kernel), lookup_putF, if_neg (by decide +kernel), lookup_putF, if_pos rfl]
theorem mf_a (t w l e : Addr) : (mf t w l e).lookup ("assignment" : Str) = some (.ref t) := by
  unfold mf
  rw [lookup_putF, if_neg (by decide +kernel), lookup_putF, if_neg (by decide +kernel), lookup_putF, if_neg (by decide +kernel), lookup_putF, if_pos rfl]
theorem mf_no (t w l e : Addr) {m : Str} (h1 : ¬ m = "entering") (h2 : ¬ m = "leaving") (h3 : ¬ m = "waiting") (h4 : ¬ m = "assignment") : (mf t w l e).lookup m = Option.none := by
  unfold mf
  rw [lookup_putF, if_neg h1, lookup_putF, if_neg h2, lookup_putF, if_neg h3, lookup_putF, if_neg h4]
  rfl
theorem mf_o (t w l e : Addr) : (mf t w l e).lookup ("options" : Str) = Option.none := mf_no t w l e (by decide +kernel) (by decide +kernel) (by decide +kernel) (by decide +kernel)
theorem mf_t (t w l e : Addr) : (mf t w l e).lookup ("take" : Str) = Option.none := mf_no t w l e (by decide +kernel) (by decide +kernel) (by decide +kernel) (by decide +kernel)
theorem putF_len (f : Str) (v : V) : ∀ {fs : List (Str × V)} {n : Nat}, fs.length ≤ n → (putF f v fs).length ≤ n + 1
  | [], n, _ => by
    show 1 ≤ n + 1
    omega
  | (g, x) :: r, n, h => by
    show (if g = f then (g, v) :: r else (g, x) :: putF f v r).length ≤ n + 1
    rw [List.length_cons] at h
    split
    · rw [List.length_cons]
      omega
    · rw [List.length_cons]
      have ih := putF_len f v (fs := r) (n := n - 1) (by omega)
      omega
theorem but_sqT {K : PySem.W.Frag} {H H' : Hp} {x C dx a : Addr} {fs : List (Str × V)} {xs : List V} (b : But x H H') (hx : H x = some (.ins C dx fs)) (h : SqT K H a xs) : SqT K H' a xs := by
  rcases h with (h | ⟨o, h⟩) | h
  · exact .inl (.inl (b _ _ (ne_of h hx (by intro z; cases z)) h))
  · exact .inl (.inr ⟨o, b _ _ (ne_of h hx (by intro z; cases z)) h⟩)
  · exact .inr h
theorem but_sqL {K : PySem.W.Frag} {H H' : Hp} {x C dx a : Addr} {fs : List (Str × V)} {xs : List V} (b : But x H H') (hx : H x = some (.ins C dx fs)) (h : SqL K H a xs) : SqL K H' a xs := by
  rcases h with (h | ⟨o, h⟩) | h
  · exact .inl (.inl (b _ _ (ne_of h hx (by intro z; cases z)) h))
  · exact .inl (.inr ⟨o, b _ _ (ne_of h hx (by intro z; cases z)) h⟩)
  · exact .inr h
theorem but_tupD {H H' : Hp} {x C dx a : Addr} {fs : List (Str × V)} {xs : List V} (b : But x H H') (hx : H x = some (.ins C dx fs)) (h : TupD H a xs) : TupD H' a xs := by
  obtain ⟨o, od, h⟩ := h
  exact ⟨o, od, b _ _ (ne_of h hx (by intro z; cases z)) h⟩
theorem but_new {H H' : Hp} {x a : Addr} {o : HO} (b : But x H H') (h : H' a = Option.none) : But x H (upd H' a o) := fun c u hc e => by
  rw [upd_ne (ne_of_none (b _ _ hc e) h)]
  exact b _ _ hc e
theorem but_put {H H' : Hp} {x : Addr} {o : HO} (b : But x H H') : But x H (upd H' x o) := fun c u hc e => by
  rw [upd_ne hc]
  exact b _ _ hc e
theorem but_free {H H' : Hp} {x C dx a : Addr} {fs fs' : List (Str × V)} (b : But x H H') (hx : H x = some (.ins C dx fs)) (hx' : H' x = some (.ins C dx fs')) (h : H' a = Option.none) : H a = Option.none := by
  have hax : a ≠ x := fun z => by
    rw [z, hx'] at h
    cases h
  cases q : H a with
  | none => rfl
  | some o =>
    rw [b _ _ hax q] at h
    cases h
/-- what is known of the class -/
structure MCls (K : PySem.W.Frag) (C : Addr) : Prop where
  cl : Cls K C
  na : NoAttr K C "assignment"
  nw : NoAttr K C "waiting"
  nl : NoAttr K C "leaving"
  ne : NoAttr K C "entering"
/-- where the parts of a moves' object lie -/
structure MA where
  x : Addr
  dx : Addr
  t : Addr
  w : Addr
  l : Addr
  e : Addr
/-- an object of moves with its three lists -/
structure MovAt (C : Addr) (H : Hp) (m : MA) (as ws ls es : List Int) : Prop where
  x : H m.x = some (.ins C m.dx (mf m.t m.w m.l m.e))
  t : TupD H m.t (as.map V.int)
  w : H m.w = some (.lst (ws.map V.int))
  l : H m.l = some (.lst (ls.map V.int))
  e : H m.e = some (.lst (es.map V.int))
  wl : m.w ≠ m.l
  we : m.w ≠ m.e
  le : m.l ≠ m.e
theorem MovAt.same {C : Addr} {H H' : Hp} {m : MA} {as ws ls es : List Int} (a : MovAt C H m as ws ls es) (s : Same H H') : MovAt C H' m as ws ls es :=
  ⟨s _ _ a.x, same_tupD s a.t, s _ _ a.w, s _ _ a.l, s _ _ a.e, a.wl, a.we, a.le⟩
section
variable {P : Program} {w : World} {K : PySem.W.Frag} {mg : Str → Option Value} {base : Heap}
/-! ### __init__ -/
def spInit (K : PySem.W.Frag) (C : Addr) : Sp := fun vs H Q _ => ∃ (x dx t cw cl ce : Addr) (as ws ls es : List Int), vs = [.ref x, .ref t, .ref cw, .ref cl, .ref ce] ∧ H x = some (.ins C dx []) ∧ TupD H t (as.map V.int) ∧
  SqT K H cw (ws.map V.int) ∧ SqL K H cl (ls.map V.int) ∧ SqL K H ce (es.map V.int) ∧ ∀ H' w l e, But x H H' → MovAt C H' ⟨x, dx, t, w, l, e⟩ as ws ls es → H w = Option.none → H l = Option.none → H e = Option.none → Q .non H'
theorem scInit : FnScope ["self", "assignment", "waiting", "leaving", "entering"] ["self", "assignment", "waiting", "leaving", "entering"] (defScope sInit) := ⟨rfl, rfl, rfl, by decide +kernel, rfl, by decide +kernel, by decide +kernel⟩
theorem ok_init {f C : Addr} {fd : FuncData} (F : Fun K "__init__" "Moves.__init__" sInit f fd) (T : MCls K C) (B : Blt mg) : FnOk P w K mg base CX0 1 f fd ["self", "assignment", "waiting", "leaving", "entering"] (spInit K C) := by
  refine F.ok scInit (fun vs H Q E h => ?_) (fun cdv A outer s H vs Q E hr h => ?_)
  · obtain ⟨x, dx, t, cw, cl, ce, as, ws, ls, es, rfl, _⟩ := h
    rfl
  · obtain ⟨x, dx, t, cw, cl, ce, as, ws, ls, es, rfl, hx, ht, hw, hl, he, q⟩ := h
    refine ⟨_, pss_cons (ps_fld (pv 0) (pv 1) rfl)
      (pss_cons (ps_fld (pv 0) (pe_callTy call_list_of (by rfl) B.list (by decide +kernel) (pa_cons (pv 2) pa_nil)) rfl)
      (pss_cons (ps_fld (pv 0) (pe_callTy call_list_of (by rfl) B.list (by decide +kernel) (pa_cons (pv 3) pa_nil)) rfl)
      (pss_one (ps_fld (pv 0) (pe_callTy call_list_of (by rfl) B.list (by decide +kernel) (pa_cons (pv 4) pa_nil)) rfl)))), ?_⟩
    refine ⟨_, rfl, _, rfl, x, C, dx, _, rfl, hx, T.cl, T.na, (by show 0 < 1000; decide), ?_⟩
    generalize hH1 : upd H x (.ins C dx (putF "assignment" (.ref t) [])) = H1
    have b1 : But x H H1 := by rw [← hH1]; exact but_put (But.refl _ _)
    have x1 : H1 x = some (.ins C dx (putF "assignment" (.ref t) [])) := by rw [← hH1]; exact upd_same
    have n1 := putF_len "assignment" (.ref t) (fs := []) (n := 0) (Nat.le_refl _)
    refine ⟨_, rfl, cw, _, rfl, .inr (but_sqT b1 hx hw), fun w nw => ?_⟩
    have xw : x ≠ w := ne_of_none x1 nw
    refine ⟨_, rfl, x, C, dx, _, rfl, (by rw [upd_ne xw]; exact x1), T.cl, T.nw, (by omega), ?_⟩
    generalize hH2 : upd (upd H1 w (.lst (ws.map V.int))) x (.ins C dx (putF "waiting" (.ref w) (putF "assignment" (.ref t) []))) = H2
    have b2 : But x H H2 := by rw [← hH2]; exact but_put (but_new b1 nw)
    have x2 : H2 x = some (.ins C dx (putF "waiting" (.ref w) (putF "assignment" (.ref t) []))) := by rw [← hH2]; exact upd_same
    have w2 : H2 w = some (.lst (ws.map V.int)) := by rw [← hH2, upd_ne xw.symm, upd_same]
    have n2 := putF_len "waiting" (.ref w) n1
    have w0 := but_free b1 hx x1 nw
    refine ⟨_, rfl, cl, _, rfl, .inl (but_sqL b2 hx hl), fun l nl => ?_⟩
    have xl : x ≠ l := ne_of_none x2 nl
    have wl : w ≠ l := ne_of_none w2 nl
    refine ⟨_, rfl, x, C, dx, _, rfl, (by rw [upd_ne xl]; exact x2), T.cl, T.nl, (by omega), ?_⟩
    generalize hH3 : upd (upd H2 l (.lst (ls.map V.int))) x (.ins C dx (putF "leaving" (.ref l) (putF "waiting" (.ref w) (putF "assignment" (.ref t) [])))) = H3
    have b3 : But x H H3 := by rw [← hH3]; exact but_put (but_new b2 nl)
    have x3 : H3 x = some (.ins C dx (putF "leaving" (.ref l) (putF "waiting" (.ref w) (putF "assignment" (.ref t) [])))) := by rw [← hH3]; exact upd_same
    have w3 : H3 w = some (.lst (ws.map V.int)) := by rw [← hH3, upd_ne xw.symm, upd_ne wl]; exact w2
    have l3 : H3 l = some (.lst (ls.map V.int)) := by rw [← hH3, upd_ne xl.symm, upd_same]
    have n3 := putF_len "leaving" (.ref l) n2
    have l0 := but_free b2 hx x2 nl
    refine ⟨_, rfl, ce, _, rfl, .inl (but_sqL b3 hx he), fun e ne => ?_⟩
    have xe : x ≠ e := ne_of_none x3 ne
    have we : w ≠ e := ne_of_none w3 ne
    have le : l ≠ e := ne_of_none l3 ne
    refine ⟨_, rfl, x, C, dx, _, rfl, (by rw [upd_ne xe]; exact x3), T.cl, T.ne, (by omega), ?_⟩
    have b4 : But x H (upd (upd H3 e (.lst (es.map V.int))) x (.ins C dx (mf t w l e))) := but_put (but_new b3 ne)
    refine q _ w l e b4 ⟨upd_same, but_tupD b4 hx ht, ?_, ?_, ?_, wl, we, le⟩ w0 l0 (but_free b3 hx x3 ne)
    · rw [upd_ne xw.symm, upd_ne we]; exact w3
    · rw [upd_ne xl.symm, upd_ne le]; exact l3
    · rw [upd_ne xe.symm, upd_same]
/-! ### options -/
/-- what the next bucket can have -/
def moving (es : List Int) (n : Nat) : List Int := (upto n).filter fun c => decide (0 < atk es c)
def opts (v : Int) (ws ls es : List Int) : List Int := (if atk ls v < atk ws v then [v] else []) ++ (if 0 < atk ls v then moving es es.length else [])
theorem moving_len (es : List Int) (n : Nat) : (moving es n).length ≤ n := by
  refine Nat.le_trans (List.length_filter_le _ _) ?_
  rw [upto_length]
  exact Nat.le_refl _
theorem moving_pos {es : List Int} {n : Nat} (h : 0 < atk es (n : Int)) : moving es (n + 1) = moving es n ++ [(n : Int)] := by
  unfold moving
  have e : decide (0 < atk es (n : Int)) = true := decide_eq_true h
  rw [upto_succ, List.filter_append]
  simp only [List.filter_cons, e, if_true, List.filter_nil]
theorem moving_neg {es : List Int} {n : Nat} (h : ¬ 0 < atk es (n : Int)) : moving es (n + 1) = moving es n := by
  unfold moving
  have e : decide (0 < atk es (n : Int)) = false := decide_eq_false h
  rw [upto_succ, List.filter_append]
  simp only [List.filter_cons, e, Bool.false_eq_true, if_false, List.filter_nil, List.append_nil]
def spOptions (C : Addr) : Sp := fun vs H Q _ => ∃ (m : MA) (as ws ls es : List Int) (i : Nat) (v : Int), vs = [.ref m.x, .int (i : Int)] ∧ MovAt C H m as ws ls es ∧ as[i]? = some v ∧ (0 ≤ v ∧ v < (ws.length : Int)) ∧ ws.length = ls.length ∧ es.length ≤ 5 ∧
  ∀ (H' : Hp) (p : Addr) (os : List Int), Same H H' → H' p = some (.lst (os.map V.int)) → os.Perm (opts v ws ls es) → Q (.ref p) H'
theorem scOptions : FnScope ["self", "bucket", "variant", "found", "other", "many"] ["self", "bucket"] (defScope sOptions) := ⟨rfl, rfl, rfl, by decide +kernel, rfl, by decide +kernel, by decide +kernel⟩
theorem ok_options {f C : Addr} {fd : FuncData} (F : Fun K "options" "Moves.options" sOptions f fd) (T : MCls K C) (B : Blt mg) : FnOk P w K mg base CX0 1 f fd ["self", "bucket"] (spOptions C) := by
  refine F.ok scOptions (fun vs H Q E h => ?_) (fun cdv A outer s H vs Q E hr h => ?_)
  · obtain ⟨m, as, ws, ls, es, i, v, rfl, _⟩ := h
    rfl
  · obtain ⟨m, as, ws, ls, es, i, v, rfl, M, hv, hv0, hwl, he5, q⟩ := h
    have nd := scOptions.nd
    refine ⟨_, pss_cons (ps_set (i := 2) nd rfl (.inl rfl) (pe_ix ix_tup (pe_fld (pv 0) rfl) (pv 1) (fun _ _ => rfl)))
      (pss_cons (ps_set (i := 3) nd rfl (.inl rfl) (pe_lst pa_nil))
      (C8.pss_cut (ps_if (pt_cmpR op_gt (pe_ix ix_list (pe_fld (pv 0) rfl) (pv 2) (fun _ _ => rfl)) (pe_ix ix_list (pe_fld (pv 0) rfl) (pv 2) (fun _ _ => rfl)) (nomark _))
        (pss_one (ps_expr (pe_bm PySem.F.plainAttrs_list PySem.F.slot_list_append PySem.F.type_list_append mt_append (pv 3) (pa_cons (pv 2) pa_nil)))) pss_nil)
      (C8.pss_cut (ps_if (pt_cmpR op_gt (pe_ix ix_list (pe_fld (pv 0) rfl) (pv 2) (fun _ _ => rfl)) pe_int (nomark _))
        (pss_one (ps_set (i := 3) nd rfl (.inl rfl) (pe_op op_cat (pv 3) (pe_lc (own := [("other", 4), ("many", 5)]) (g := gTup K 2 (gCons (gName 4) (gCons (gName 5) gNil))) (tt := tTest (tOp (rI0 fun i j => .bl (decide (j < i))) (tVar 5) (tC (.int 0)))) rfl nd (pi_enum (by rfl) B.enumerate (pa_cons (pe_fld (pv 0) rfl) pa_nil))
          (blkOk_by (N := ["self", "bucket", "variant", "found", "other", "many"]) (sc := defScope sOptions) (by decide +kernel))
          (fun _ _ _ _ _ => pg_tup rfl (pgs_cons (pg_name (i := 4) nd rfl (.inl rfl)) (pgs_cons (pg_name (i := 5) nd rfl (.inl rfl)) pgs_nil)))
          (fun _ _ _ _ _ => pts_one (pt_cmpR op_gt (pv 5) pe_int (nomark _))) (fun _ _ _ _ _ => pv 4))))) pss_nil)
      (pss_one (ps_ret (pe_callB cr_sorted (by rfl) B.sorted (by decide +kernel) (pa_cons (pv 3) pa_nil))))))), ?_⟩
    refine ⟨_, rfl, m.x, C, m.dx, _, _, rfl, M.x, T.cl, T.na, mf_a _ _ _ _, _, rfl, m.t, _, _, _, rfl, rfl, M.t.sq, at_int (by omega) (by simpa using hv), ?_⟩
    refine ⟨Nat.zero_le _, fun p np => ?_⟩
    have s1 := same_upd (o := .lst []) np
    have M1 := M.same s1
    have hvl : v < (ls.length : Int) := by omega
    have aw : ws[v.toNat]? = some (atk ws v) := atk_get hv0
    have al : ls[v.toNat]? = some (atk ls v) := atk_get ⟨hv0.1, hvl⟩
    refine ⟨fun σ H' => σ = [some (.ref m.x), some (.int (i : Int)), some (.int v), some (.ref p), none, none] ∧ Same H H' ∧ H' p = some (.lst ((if atk ls v < atk ws v then [v] else []).map V.int)), ?_, ?_⟩
    · refine ⟨_, rfl, m.x, C, m.dx, _, _, rfl, M1.x, T.cl, T.nw, mf_w _ _ _ _, _, rfl, m.w, _, _, _, rfl, rfl, SqL.of M1.w, at_int hv0.1 aw, _, rfl, m.x, C, m.dx, _, _, rfl, M1.x, T.cl, T.nl, mf_l _ _ _ _, _, rfl, m.l, _, _, _, rfl, rfl, SqL.of M1.l, at_int hv0.1 al, _, _, rfl, rfl, _, rfl, iteB (fun hc => ?_) (fun hc => ?_)⟩
      · have hc' : atk ls v < atk ws v := of_decide_eq_true hc
        refine ⟨_, rfl, .inl ⟨rfl, _, SqL.of upd_same⟩, _, rfl, p, _, _, rfl, rfl, upd_same, small1000 (by show 0 ≤ 1000; omega), rfl, ?_, ?_⟩
        · intro b o e
          rw [upd_ne (ne_of_none e np)]
          exact s1 _ _ e
        · rw [upd_same, if_pos hc']
          rfl
      · have hc' : ¬ atk ls v < atk ws v := of_decide_eq_false hc
        refine ⟨rfl, s1, ?_⟩
        rw [upd_same, if_neg hc']
        rfl
    · rintro σ H2 ⟨rfl, s2, hp2⟩
      generalize hfs : (if atk ls v < atk ws v then [v] else []) = fs at hp2
      have hfl : fs.length ≤ 1 := by
        rw [← hfs]
        split <;> simp
      have M2 := M.same s2
      refine ⟨fun σ H' => ∃ r, σ = [some (.ref m.x), some (.int (i : Int)), some (.int v), some (.ref r), none, none] ∧ Same H H' ∧ H' r = some (.lst ((fs ++ (if 0 < atk ls v then moving es es.length else [])).map V.int)), ?_, ?_⟩
      · refine ⟨_, rfl, m.x, C, m.dx, _, _, rfl, M2.x, T.cl, T.nl, mf_l _ _ _ _, _, rfl, m.l, _, _, _, rfl, rfl, SqL.of M2.l, at_int hv0.1 al, _, _, rfl, rfl, _, rfl, iteB (fun hc => ?_) (fun hc => ?_)⟩
        · have hc' : 0 < atk ls v := of_decide_eq_true hc
          refine ⟨_, rfl, _, rfl, m.x, C, m.dx, _, _, rfl, M2.x, T.cl, T.ne, mf_e _ _ _ _, _, _, rfl, SqL.of M2.e, fun D nD => ?_⟩
          refine lc_acc walk_enum nD (fun j => (moving es j).map V.int) rfl (fun j hj => ?_) (fun H' sm => SqL.of (sm _ _ M2.e)) ?_ (fun H' sm hD => ?_)
          · rw [List.length_map] at hj ⊢
            have q1 := moving_len es j
            exact small_of (m := 5) (by omega)
          · rintro j x H3 H4 N hj sm ⟨U, x0, y0, rfl, nU, rfl, e0, e1⟩ fin skip
            have e0 : V.int (j : Int) = x0 := Option.some.inj e0
            subst e0
            obtain ⟨z, hz, rfl⟩ := get_map e1
            have hjl := (List.getElem?_eq_some_iff.mp hz).1
            have ez : atk es (j : Int) = z := by
              have q1 := atk_get (xs := es) (k := (j : Int)) (by omega)
              rw [Int.toNat_natCast, hz] at q1
              exact (Option.some.inj q1).symm
            refine ⟨U, [.int (j : Int), .int z], rfl, SqT.of upd_same, rfl, _, _, rfl, _, _, rfl, rfl, rfl, _, rfl, _, _, rfl, rfl, _, rfl, iteB (fun hd => ?_) (fun hd => ?_)⟩
            · have hd' : 0 < z := of_decide_eq_true hd
              refine ⟨_, rfl, fin _ _ ?_ (same_upd nU)⟩
              rw [moving_pos (by rw [ez]; exact hd'), List.map_append]
              rfl
            · have hd' : ¬ 0 < z := of_decide_eq_false hd
              refine skip ?_ _ (same_upd nU)
              rw [moving_neg (by rw [ez]; exact hd')]
          · refine ⟨p, D, _, _, rfl, rfl, sm _ _ hp2, hD, ?_, fun r nr => ?_⟩
            · have q1 := moving_len es (es.map V.int).length
              rw [List.length_map] at q1
              rw [List.length_map, List.length_map, List.length_map]
              refine Nat.le_of_lt (small_of (m := 10) ?_)
              omega
            · refine ⟨_, rfl, s2.trans (sm.trans (same_upd nr)), ?_⟩
              rw [upd_same, if_pos hc', List.map_append, List.length_map]
        · have hc' : ¬ 0 < atk ls v := of_decide_eq_false hc
          refine ⟨p, rfl, s2, ?_⟩
          rw [if_neg hc', List.append_nil]
          exact hp2
      · rintro σ H3 ⟨r, rfl, s3, hr3⟩
        refine ⟨_, rfl, r, _, rfl, SqL.of hr3, ?_, fun ns' u hperm hsort nu => ?_⟩
        · rw [List.length_append]
          split
          · have q1 := moving_len es es.length
            omega
          · show fs.length + 0 < 64
            omega
        · refine q _ u ns' (s3.trans (same_upd nu)) upd_same ?_
          rw [← hfs] at hperm
          exact hperm
end
end K17
namespace K17
open PySem PySem.Spec PyProof.Rows L2
/-! ### take -/
theorem MovAt.ne {C : Addr} {H : Hp} {m : MA} {as ws ls es : List Int} (M : MovAt C H m as ws ls es) {a : Addr} {xs : List V} (h : H a = some (.lst xs)) : m.x ≠ a ∧ m.t ≠ a := by
  refine ⟨ne_of M.x h (by intro z; cases z), ?_⟩
  obtain ⟨o, _, ht⟩ := M.t
  exact ne_of ht h (by intro z; cases z)
theorem tupD_upd {H : Hp} {a b : Addr} {o : HO} {xs : List V} (h : TupD H a xs) (n : a ≠ b) : TupD (upd H b o) a xs := by
  obtain ⟨ob, od, h⟩ := h
  exact ⟨ob, od, by rw [upd_ne n]; exact h⟩
theorem MovAt.setW {C : Addr} {H : Hp} {m : MA} {as ws ls es : List Int} (M : MovAt C H m as ws ls es) (ws' : List Int) : MovAt C (upd H m.w (.lst (ws'.map V.int))) m as ws' ls es :=
  ⟨by rw [upd_ne (M.ne M.w).1]; exact M.x, tupD_upd M.t (M.ne M.w).2, upd_same, by rw [upd_ne M.wl.symm]; exact M.l, by rw [upd_ne M.we.symm]; exact M.e, M.wl, M.we, M.le⟩
theorem MovAt.setL {C : Addr} {H : Hp} {m : MA} {as ws ls es : List Int} (M : MovAt C H m as ws ls es) (ls' : List Int) : MovAt C (upd H m.l (.lst (ls'.map V.int))) m as ws ls' es :=
  ⟨by rw [upd_ne (M.ne M.l).1]; exact M.x, tupD_upd M.t (M.ne M.l).2, by rw [upd_ne M.wl]; exact M.w, upd_same, by rw [upd_ne M.le.symm]; exact M.e, M.wl, M.we, M.le⟩
theorem MovAt.setE {C : Addr} {H : Hp} {m : MA} {as ws ls es : List Int} (M : MovAt C H m as ws ls es) (es' : List Int) : MovAt C (upd H m.e (.lst (es'.map V.int))) m as ws ls es' :=
  ⟨by rw [upd_ne (M.ne M.e).1]; exact M.x, tupD_upd M.t (M.ne M.e).2, by rw [upd_ne M.we]; exact M.w, by rw [upd_ne M.le]; exact M.l, upd_same, M.wl, M.we, M.le⟩
/-- all that stood stands, but for the three lists -/
def But3 (m : MA) (H H' : Hp) : Prop := ∀ b o, b ≠ m.w → b ≠ m.l → b ≠ m.e → H b = some o → H' b = some o
section
variable {P : Program} {w : World} {K : PySem.W.Frag} {mg : Str → Option Value} {base : Heap}
theorem set_int (ws : List Int) (j : Nat) (z : Int) : (ws.map V.int).set j (V.int z) = (ws.set j z).map V.int := by rw [List.map_set]
def spTake (C : Addr) : Sp := fun vs H Q _ => ∃ (m : MA) (as ws ls es : List Int) (i : Nat) (v c : Int), vs = [.ref m.x, .int (i : Int), .int c] ∧ MovAt C H m as ws ls es ∧ as[i]? = some v ∧ (0 ≤ v ∧ v < (ws.length : Int)) ∧ ws.length = ls.length ∧ (0 ≤ c ∧ c < (es.length : Int)) ∧
  ∀ H' : Hp, But3 m H H' → MovAt C H' m as (ws.set v.toNat (atk ws v - 1)) (if c = v then ls else ls.set v.toNat (atk ls v - 1)) (if c = v then es else es.set c.toNat (atk es c - 1)) → Q .non H'
theorem scTake : FnScope ["self", "bucket", "chosen", "variant"] ["self", "bucket", "chosen"] (defScope sTake) := ⟨rfl, rfl, rfl, by decide +kernel, rfl, by decide +kernel, by decide +kernel⟩
theorem ok_take {f C : Addr} {fd : FuncData} (F : Fun K "take" "Moves.take" sTake f fd) (T : MCls K C) : FnOk P w K mg base CX0 1 f fd ["self", "bucket", "chosen"] (spTake C) := by
  refine F.ok scTake (fun vs H Q E h => ?_) (fun cdv A outer s H vs Q E hr h => ?_)
  · obtain ⟨m, as, ws, ls, es, i, v, c, rfl, _⟩ := h
    rfl
  · obtain ⟨m, as, ws, ls, es, i, v, c, rfl, M, hv, hv0, hwl, hc, q⟩ := h
    have nd := scTake.nd
    refine ⟨_, pss_cons (ps_set (i := 3) nd rfl (.inl rfl) (pe_ix ix_tup (pe_fld (pv 0) rfl) (pv 1) (fun _ _ => rfl)))
      (pss_cons (ps_asg (pe_op op_sub (pe_ix ix_list (pe_fld (pv 0) rfl) (pv 3) (fun _ _ => rfl)) pe_int) (pg_sub (pe_fld (pv 0) rfl) (pv 3) set_list))
      (pss_one (ps_if (pt_cmpR op_ne (pv 2) (pv 3) (nomark _))
        (pss_cons (ps_asg (pe_op op_sub (pe_ix ix_list (pe_fld (pv 0) rfl) (pv 3) (fun _ _ => rfl)) pe_int) (pg_sub (pe_fld (pv 0) rfl) (pv 3) set_list))
        (pss_one (ps_asg (pe_op op_sub (pe_ix ix_list (pe_fld (pv 0) rfl) (pv 2) (fun _ _ => rfl)) pe_int) (pg_sub (pe_fld (pv 0) rfl) (pv 2) set_list)))) pss_nil))), ?_⟩
    refine ⟨_, rfl, m.x, C, m.dx, _, _, rfl, M.x, T.cl, T.na, mf_a _ _ _ _, _, rfl, m.t, _, _, _, rfl, rfl, M.t.sq, at_int (by omega) (by simpa using hv), ?_⟩
    have hvl : v < (ls.length : Int) := by omega
    have aw : ws[v.toNat]? = some (atk ws v) := atk_get hv0
    have al : ls[v.toNat]? = some (atk ls v) := atk_get ⟨hv0.1, hvl⟩
    have ae : es[c.toNat]? = some (atk es c) := atk_get hc
    refine ⟨_, rfl, m.x, C, m.dx, _, _, rfl, M.x, T.cl, T.nw, mf_w _ _ _ _, _, rfl, m.w, _, _, _, rfl, rfl, SqL.of M.w, at_int hv0.1 aw, _, _, rfl, rfl, ?_⟩
    refine ⟨_, rfl, m.x, C, m.dx, _, _, rfl, M.x, T.cl, T.nw, mf_w _ _ _ _, _, rfl, m.w, _, _, v.toNat, rfl, rfl, M.w, ixN_in hv0.1 (by rw [List.length_map]; exact hv0.2), ?_⟩
    rw [set_int]
    have M1 := M.setW (ws.set v.toNat (atk ws v - 1))
    have b1 : But3 m H (upd H m.w (.lst ((ws.set v.toNat (atk ws v - 1)).map V.int))) := fun b o h1 h2 h3 e => by
      rw [upd_ne h1]
      exact e
    generalize upd H m.w (.lst ((ws.set v.toNat (atk ws v - 1)).map V.int)) = H1 at M1 b1
    refine ⟨_, rfl, _, rfl, rfl, _, rfl, ?_⟩
    by_cases hcv : c = v
    · rw [if_pos hcv, if_pos hcv] at q
      exact iteNS (by rw [hcv]) (q _ b1 M1)
    · have hd : (!decide (V.int c = V.int v)) = true := by
        rw [decide_eq_false (fun z => hcv (V.int.inj z))]
        rfl
      rw [if_neg hcv, if_neg hcv] at q
      refine iteC hd ?_
      refine ⟨_, rfl, m.x, C, m.dx, _, _, rfl, M1.x, T.cl, T.nl, mf_l _ _ _ _, _, rfl, m.l, _, _, _, rfl, rfl, SqL.of M1.l, at_int hv0.1 al, _, _, rfl, rfl, ?_⟩
      refine ⟨_, rfl, m.x, C, m.dx, _, _, rfl, M1.x, T.cl, T.nl, mf_l _ _ _ _, _, rfl, m.l, _, _, v.toNat, rfl, rfl, M1.l, ixN_in hv0.1 (by rw [List.length_map]; exact hvl), ?_⟩
      rw [set_int]
      have M2 := M1.setL (ls.set v.toNat (atk ls v - 1))
      have b2 : But3 m H (upd H1 m.l (.lst ((ls.set v.toNat (atk ls v - 1)).map V.int))) := fun b o h1 h2 h3 e => by
        rw [upd_ne h2]
        exact b1 _ _ h1 h2 h3 e
      generalize upd H1 m.l (.lst ((ls.set v.toNat (atk ls v - 1)).map V.int)) = H2 at M2 b2
      refine ⟨_, rfl, m.x, C, m.dx, _, _, rfl, M2.x, T.cl, T.ne, mf_e _ _ _ _, _, rfl, m.e, _, _, _, rfl, rfl, SqL.of M2.e, at_int hc.1 ae, _, _, rfl, rfl, ?_⟩
      refine ⟨_, rfl, m.x, C, m.dx, _, _, rfl, M2.x, T.cl, T.ne, mf_e _ _ _ _, _, rfl, m.e, _, _, c.toNat, rfl, rfl, M2.e, ixN_in hc.1 (by rw [List.length_map]; exact hc.2), ?_⟩
      rw [set_int]
      refine q _ (fun b o h1 h2 h3 e => ?_) (M2.setE _)
      rw [upd_ne h3]
      exact b2 _ _ h1 h2 h3 e
/-! ### moves_of -/
/-- the pairs of a variant's buckets and its share -/
def pz (cs as : List Int) : List (Int × Int) := (cnt cs.length as).zip cs
theorem pz_length (cs as : List Int) : (pz cs as).length = cs.length := by
  unfold pz
  rw [List.length_zip, cnt_length]
  omega
theorem pz_get {cs as : List Int} {i : Nat} {x y : Int} (hx : (cnt cs.length as)[i]? = some x) (hy : cs[i]? = some y) : (pz cs as)[i]? = some (x, y) := zip_get hx hy
def spMovesOf (C : Addr) : Sp := fun vs H Q _ => ∃ (al t : Addr) (cs as : List Int), vs = [.ref al, .ref t] ∧ Rd H al (.tup (cs.map V.int)) ∧ TupD H t (as.map V.int) ∧ cs.length ≤ 5 ∧
  ∀ (H' : Hp) (m : MA), Same H H' → m.t = t → MovAt C H' m as (cnt cs.length as) ((pz cs as).map lvg) ((pz cs as).map ent) → H m.w = Option.none → H m.l = Option.none → H m.e = Option.none → Q (.ref m.x) H'
theorem scMovesOf : FnScope ["allocation", "assignment", "counts", "leaving", "before", "behind"] ["allocation", "assignment"] (defScope sMovesOf) := ⟨rfl, rfl, rfl, by decide +kernel, rfl, by decide +kernel, by decide +kernel⟩
theorem ok_movesof {f C fI : Addr} {fd fdI : FuncData} (F : DefAt K mg "moves_of" sMovesOf ["allocation", "assignment"] f fd) (B : Blt mg) (C1 : Cal P w K mg base 1 "counts_of" ["assignment", "variants"] spCounts) (M : Mk K C fI) (mgC : mg "Moves" = some (.ref C))
    (GI : FnOk P w K mg base CX0 1 fI fdI ["self", "assignment", "waiting", "leaving", "entering"] (spInit K C)) (bI : Binds K fdI ["self", "assignment", "waiting", "leaving", "entering"] []) : FnOk P w K mg base CX0 3 f fd ["allocation", "assignment"] (spMovesOf C) := by
  obtain ⟨f1, fd1, G1, g1, kp1, b1⟩ := C1
  refine F.1.ok scMovesOf (fun vs H Q E h => ?_) (fun cdv A outer s H vs Q E hr h => ?_)
  · obtain ⟨al, t, cs, as, rfl, _⟩ := h
    rfl
  · obtain ⟨al, t, cs, as, rfl, hal, ht, hc5, q⟩ := h
    have nd := scMovesOf.nd
    refine ⟨_, pss_cons (ps_set (i := 2) nd rfl (.inl rfl) (pe_call G1 (hr.mono (by decide)) (by rfl) g1 kp1 b1 .nil pass0 (pa_cons (pv 1) (pa_cons (pe_callB call_len (by rfl) B.len (by decide +kernel) (pa_cons (pv 0) pa_nil)) pa_nil))))
      (pss_cons (ps_setLc (i := 3) (own := [("before", 4), ("behind", 5)]) (g := gTup K 2 (gCons (gName 4) (gCons (gName 5) gNil))) (tt := tYes) (by rfl) nd rfl rfl (sw_true rfl rfl rfl (by decide +kernel)) (RZ.pi_zipA (by rfl) B.zip (pa_cons (pv 2) (pa_cons (pv 0) pa_nil)))
        (blkOk_by (N := ["allocation", "assignment", "counts", "leaving", "before", "behind"]) (sc := defScope sMovesOf) (by decide +kernel))
        (fun _ _ _ _ _ => pg_tup rfl (pgs_cons (pg_name (i := 4) nd rfl (.inl rfl)) (pgs_cons (pg_name (i := 5) nd rfl (.inl rfl)) pgs_nil)))
        (fun _ _ _ _ _ => pts_nil) (fun _ _ _ _ _ => pe_callB (call_max2 rfl) (by rfl) B.max (by decide +kernel) (pa_cons pe_int (pa_cons (pe_op op_sub (pv 4) (pv 5)) pa_nil))))
      (pss_one (ps_ret (pe_make M GI hr (by rfl) mgC bI .nil pass0 (pa_cons (pv 1) (pa_cons (pv 2) (pa_cons (pv 3) (pa_cons
        (pe_lc (own := [("before", 4), ("behind", 5)]) (g := gTup K 2 (gCons (gName 4) (gCons (gName 5) gNil))) (tt := tYes) rfl nd (RZ.pi_zipA (by rfl) B.zip (pa_cons (pv 2) (pa_cons (pv 0) pa_nil)))
        (blkOk_by (N := ["allocation", "assignment", "counts", "leaving", "before", "behind"]) (sc := defScope sMovesOf) (by decide +kernel))
        (fun _ _ _ _ _ => pg_tup rfl (pgs_cons (pg_name (i := 4) nd rfl (.inl rfl)) (pgs_cons (pg_name (i := 5) nd rfl (.inl rfl)) pgs_nil)))
        (fun _ _ _ _ _ => pts_nil) (fun _ _ _ _ _ => pe_callB (call_max2 rfl) (by rfl) B.max (by decide +kernel) (pa_cons pe_int (pa_cons (pe_op op_sub (pv 5) (pv 4)) pa_nil)))) pa_nil)))))))), ?_⟩
    refine ⟨_, rfl, _, rfl, _, _, rfl, .inr ⟨_, rd_sq hal, rfl⟩, t, as, cs.length, ?_, ht, hc5, fun H1 p s1 np hp => ?_⟩
    · rw [List.length_map]
      rfl
    have hm : min ((cnt cs.length as).map V.int).length (cs.map V.int).length = cs.length := by
      rw [List.length_map, List.length_map, cnt_length]
      omega
    have lenl : ∀ g : Int × Int → Int, ((pz cs as).map g).length = cs.length := fun g => by rw [List.length_map, pz_length]
    have al1 := same_rd s1 hal
    refine ⟨_, rfl, _, rfl, p, al, _, _, rfl, .inr ⟨SqT.of hp, rd_sq al1, fun D nD => ?_⟩⟩
    refine lc_acc (walk_zipT hm.symm) nD (fun i => (((pz cs as).map lvg).map V.int).take i) rfl (fun i hi => ?_) (fun H' sm => ⟨SqT.of (sm _ _ hp), rd_sq (same_rd sm al1)⟩) ?_ (fun H2 s2 hD => ?_)
    · refine take_len (m := 5) ?_
      rw [List.length_map, lenl]
      exact hc5
    · rintro i x H3 H4 N hi sm ⟨T, x0, y0, rfl, nT, rfl, e0, e1⟩ fin skip
      obtain ⟨b, hb, rfl⟩ := get_map e0
      obtain ⟨d, hd, rfl⟩ := get_map e1
      refine ⟨T, [.int b, .int d], rfl, SqT.of upd_same, rfl, _, _, rfl, _, _, rfl, rfl, rfl, iteT (B := False) ⟨_, rfl, _, rfl, _, _, rfl, rfl, _, _, rfl, ?_⟩⟩
      refine fin _ _ (take_step ?_) (same_upd nT)
      rw [List.getElem?_map, List.getElem?_map, pz_get hb hd]
      rfl
    · rw [List.take_of_length_le (by rw [List.length_map, lenl]; omega)] at hD
      have p2 := s2 _ _ hp
      have al2 := same_rd s2 al1
      refine ⟨_, rfl, _, rfl, _, rfl, _, rfl, _, rfl, p, al, _, _, rfl, .inr ⟨SqT.of p2, rd_sq al2, fun D2 nD2 => ?_⟩⟩
      refine lc_acc (walk_zipT hm.symm) nD2 (fun i => (((pz cs as).map ent).map V.int).take i) rfl (fun i hi => ?_) (fun H' sm => ⟨SqT.of (sm _ _ p2), rd_sq (same_rd sm al2)⟩) ?_ (fun H3 s3 hD2 => ?_)
      · refine take_len (m := 5) ?_
        rw [List.length_map, lenl]
        exact hc5
      · rintro i x H4 H5 N hi sm ⟨T, x0, y0, rfl, nT, rfl, e0, e1⟩ fin skip
        obtain ⟨b, hb, rfl⟩ := get_map e0
        obtain ⟨d, hd, rfl⟩ := get_map e1
        refine ⟨T, [.int b, .int d], rfl, SqT.of upd_same, rfl, _, _, rfl, _, _, rfl, rfl, rfl, iteT (B := False) ⟨_, rfl, _, rfl, _, _, rfl, rfl, _, _, rfl, ?_⟩⟩
        refine fin _ _ (take_step ?_) (same_upd nT)
        rw [List.getElem?_map, List.getElem?_map, pz_get hb hd]
        rfl
      · rw [List.take_of_length_le (by rw [List.length_map, lenl]; omega)] at hD2
        intro x dx nx ndx nex
        have s4 : Same H3 (upd (upd H3 dx (.own x)) x (.ins C dx [])) := fun b o e => by
          rw [upd_ne (ne_of_none e nx), upd_ne (ne_of_none e ndx)]
          exact e
        have s13 : Same H1 H3 := s2.trans s3
        have s04 : Same H (upd (upd H3 dx (.own x)) x (.ins C dx [])) := s1.trans (s13.trans s4)
        refine ⟨x, dx, t, p, D, D2, as, cnt cs.length as, (pz cs as).map lvg, (pz cs as).map ent, rfl, upd_same, same_tupD s04 ht, SqT.of (s4 _ _ (s13 _ _ hp)), SqL.of (s4 _ _ (s3 _ _ hD)), SqL.of (s4 _ _ hD2), fun H5 w' l' e' b5 M5 nw nl ne => ⟨rfl, ?_⟩⟩
        have x0 : H x = Option.none := (s1.trans s13).free nx
        have s05 : Same H H5 := fun b o e => b5 _ _ (fun z => by rw [z, x0] at e; cases e) (s04 _ _ e)
        exact q H5 ⟨x, dx, t, w', l', e'⟩ s05 rfl M5 (s04.free nw) (s04.free nl) (s04.free ne)
end
end K17
namespace K17
open PySem PySem.Spec PyProof.Rows L2
/-! ### what holds between two turns of completed -/
theorem atk_set {xs : List Int} {v u z : Int} (hv : 0 ≤ v ∧ v < (xs.length : Int)) (hu : 0 ≤ u) : atk (xs.set v.toNat z) u = if u = v then z else atk xs u := by
  unfold atk
  rw [List.getD_eq_getElem?_getD, List.getD_eq_getElem?_getD]
  by_cases h : u = v
  · subst h
    rw [if_pos rfl, List.getElem?_set_self (by omega)]
    rfl
  · rw [if_neg h, List.getElem?_set_ne (by omega)]
structure LInv (as : List Int) (k i : Nat) (ws ls es : List Int) : Prop where
  w : ws.length = k
  l : ls.length = k
  e : es.length = k
  wc : ∀ u : Int, 0 ≤ u → u < (k : Int) → atk ws u = (((as.drop i).count u : Nat) : Int)
  l0 : ∀ u : Int, 0 ≤ u → u < (k : Int) → 0 ≤ atk ls u
  lw : ∀ u : Int, 0 ≤ u → u < (k : Int) → atk ls u ≤ atk ws u
  e0 : ∀ u : Int, 0 ≤ u → u < (k : Int) → 0 ≤ atk es u
  one : ∀ u : Int, 0 ≤ u → u < (k : Int) → atk ls u = 0 ∨ atk es u = 0
  sum : ls.sum = es.sum
theorem drop_count {as : List Int} {i : Nat} {v u : Int} (h : as[i]? = some v) : ((as.drop i).count u : Int) = ((as.drop (i + 1)).count u : Int) + if v = u then 1 else 0 := by
  obtain ⟨hi, e⟩ := List.getElem?_eq_some_iff.mp h
  rw [List.drop_eq_getElem_cons hi, e, List.count_cons]
  by_cases q : v = u <;> simp [q]
theorem sum_nonneg : ∀ {xs : List Int}, (∀ u : Int, 0 ≤ u → u < (xs.length : Int) → 0 ≤ atk xs u) → 0 ≤ xs.sum
  | [], _ => Int.le_refl _
  | x :: r, h => by
    have h0 : 0 ≤ x := h 0 (Int.le_refl _) (by rw [List.length_cons]; omega)
    have ih := sum_nonneg (xs := r) fun u a b => by
      have q := h (u + 1) (by omega) (by rw [List.length_cons]; omega)
      unfold atk at q ⊢
      rw [show (u + 1).toNat = u.toNat + 1 by omega] at q
      simpa using q
    rw [List.sum_cons]
    omega
theorem le_sum : ∀ {xs : List Int} {v : Int}, (∀ u : Int, 0 ≤ u → u < (xs.length : Int) → 0 ≤ atk xs u) → 0 ≤ v → v < (xs.length : Int) → atk xs v ≤ xs.sum
  | [], v, _, h0, h1 => by
    rw [List.length_nil] at h1
    omega
  | x :: r, v, h, h0, h1 => by
    have hr : ∀ u : Int, 0 ≤ u → u < (r.length : Int) → 0 ≤ atk r u := fun u a b => by
      have q := h (u + 1) (by omega) (by rw [List.length_cons]; omega)
      unfold atk at q ⊢
      rw [show (u + 1).toNat = u.toNat + 1 by omega] at q
      simpa using q
    rw [List.sum_cons]
    by_cases hv : v = 0
    · subst hv
      have q := sum_nonneg hr
      show x ≤ x + r.sum
      omega
    · have ih := le_sum (xs := r) (v := v - 1) hr (by omega) (by rw [List.length_cons] at h1; omega)
      have hx : 0 ≤ x := h 0 (Int.le_refl _) (by rw [List.length_cons]; omega)
      have e : atk (x :: r) v = atk r (v - 1) := by
        unfold atk
        rw [show v.toNat = (v - 1).toNat + 1 by omega]
        simp
      rw [e]
      omega
theorem pos_at : ∀ {xs : List Int}, 0 < xs.sum → ∃ u : Int, 0 ≤ u ∧ u < (xs.length : Int) ∧ 0 < atk xs u
  | [], h => by
    have : (0 : Int) < 0 := h
    omega
  | x :: r, h => by
    by_cases hx : 0 < x
    · exact ⟨0, Int.le_refl _, by rw [List.length_cons]; omega, hx⟩
    · rw [List.sum_cons] at h
      obtain ⟨u, h0, h1, h2⟩ := pos_at (xs := r) (by omega)
      refine ⟨u + 1, by omega, by rw [List.length_cons]; omega, ?_⟩
      unfold atk at h2 ⊢
      rw [show (u + 1).toNat = u.toNat + 1 by omega]
      simpa using h2
theorem mem_opts {v c : Int} {ws ls es : List Int} (h : c ∈ opts v ws ls es) : (c = v ∧ atk ls v < atk ws v) ∨ (0 < atk ls v ∧ 0 ≤ c ∧ c < (es.length : Int) ∧ 0 < atk es c) := by
  unfold opts at h
  rcases List.mem_append.mp h with h | h
  · by_cases q : atk ls v < atk ws v
    · rw [if_pos q] at h
      exact .inl ⟨List.mem_singleton.mp h, q⟩
    · rw [if_neg q] at h
      cases h
  · by_cases q : 0 < atk ls v
    · rw [if_pos q] at h
      unfold moving at h
      obtain ⟨h1, h2⟩ := List.mem_filter.mp h
      have h3 := mem_upto.mp h1
      exact .inr ⟨q, h3.1, h3.2, of_decide_eq_true h2⟩
    · rw [if_neg q] at h
      cases h
section
variable {as : List Int} {k i : Nat} {ws ls es : List Int} {v : Int}
/-- there is always something that the next bucket can have -/
theorem opts_some (I : LInv as k i ws ls es) (hv : as[i]? = some v) (h0 : 0 ≤ v) (h1 : v < (k : Int)) : opts v ws ls es ≠ [] := by
  have hw := I.wc v h0 h1
  rw [drop_count hv, if_pos rfl] at hw
  have lw := I.lw v h0 h1
  by_cases q : atk ls v < atk ws v
  · unfold opts
    rw [if_pos q]
    simp
  · have hl : 0 < atk ls v := by omega
    have hs : atk ls v ≤ ls.sum := le_sum (fun u a b => I.l0 u a (by rw [I.l] at b; exact b)) h0 (by rw [I.l]; exact h1)
    obtain ⟨c, c0, c1, c2⟩ := pos_at (xs := es) (by rw [← I.sum]; omega)
    have hm : c ∈ moving es es.length := List.mem_filter.mpr ⟨mem_upto.mpr ⟨c0, c1⟩, decide_eq_true c2⟩
    unfold opts
    rw [if_pos hl]
    intro z
    have z2 := (List.append_eq_nil_iff.mp z).2
    rw [z2] at hm
    cases hm
theorem set_sum {xs : List Int} {v z : Int} (hv : 0 ≤ v ∧ v < (xs.length : Int)) : (xs.set v.toNat z).sum = xs.sum - atk xs v + z := sum_set (atk_get hv)
theorem linv_step (I : LInv as k i ws ls es) (hv : as[i]? = some v) (h0 : 0 ≤ v) (h1 : v < (k : Int)) {c : Int} (hc : c ∈ opts v ws ls es) :
    (0 ≤ c ∧ c < (k : Int)) ∧ LInv as k (i + 1) (ws.set v.toNat (atk ws v - 1)) (if c = v then ls else ls.set v.toNat (atk ls v - 1)) (if c = v then es else es.set c.toNat (atk es c - 1)) := by
  have vw : 0 ≤ v ∧ v < (ws.length : Int) := ⟨h0, by rw [I.w]; exact h1⟩
  have vl : 0 ≤ v ∧ v < (ls.length : Int) := ⟨h0, by rw [I.l]; exact h1⟩
  have wc : ∀ u : Int, 0 ≤ u → u < (k : Int) → atk (ws.set v.toNat (atk ws v - 1)) u = (((as.drop (i + 1)).count u : Nat) : Int) := fun u a b => by
    have q := I.wc u a b
    rw [drop_count hv] at q
    rw [atk_set vw a]
    by_cases e : u = v
    · subst e
      rw [if_pos rfl] at q ⊢
      omega
    · rw [if_neg (fun z => e z.symm)] at q
      rw [if_neg e]
      omega
  by_cases hcv : c = v
  · rw [if_pos hcv, if_pos hcv]
    have hlt : atk ls v < atk ws v := by
      rcases mem_opts hc with q | ⟨q1, q2, q3, q4⟩
      · exact q.2
      · rw [hcv] at q4
        have q5 := I.one v h0 h1
        omega
    refine ⟨by rw [hcv]; exact ⟨h0, h1⟩, by rw [List.length_set]; exact I.w, I.l, I.e, wc, I.l0, fun u a b => ?_, I.e0, I.one, I.sum⟩
    have q := I.lw u a b
    rw [atk_set vw a]
    by_cases e : u = v
    · subst e
      rw [if_pos rfl]
      omega
    · rw [if_neg e]
      exact q
  · rw [if_neg hcv, if_neg hcv]
    obtain ⟨q1, c0, c1, c2⟩ : 0 < atk ls v ∧ 0 ≤ c ∧ c < (es.length : Int) ∧ 0 < atk es c := by
      rcases mem_opts hc with q | q
      · exact absurd q.1 hcv
      · exact q
    have ce : 0 ≤ c ∧ c < (es.length : Int) := ⟨c0, c1⟩
    have ck : c < (k : Int) := by rw [I.e] at c1; exact c1
    refine ⟨⟨c0, ck⟩, by rw [List.length_set]; exact I.w, by rw [List.length_set]; exact I.l, by rw [List.length_set]; exact I.e, wc, fun u a b => ?_, fun u a b => ?_, fun u a b => ?_, fun u a b => ?_, ?_⟩
    · have q := I.l0 u a b
      rw [atk_set vl a]
      by_cases e : u = v
      · rw [if_pos e]
        omega
      · rw [if_neg e]
        exact q
    · have q := I.lw u a b
      rw [atk_set vl a, atk_set vw a]
      by_cases e : u = v
      · subst e
        rw [if_pos rfl, if_pos rfl]
        omega
      · rw [if_neg e, if_neg e]
        exact q
    · have q := I.e0 u a b
      rw [atk_set ce a]
      by_cases e : u = c
      · rw [if_pos e]
        omega
      · rw [if_neg e]
        exact q
    · have q := I.one u a b
      rw [atk_set vl a, atk_set ce a]
      by_cases e : u = v
      · have e2 : u ≠ c := fun z => hcv (by rw [← z, e])
        rw [if_pos e, if_neg e2]
        have q5 := I.one v h0 h1
        subst e
        omega
      · rw [if_neg e]
        by_cases e2 : u = c
        · have q6 := I.one c c0 ck
          rw [e2]
          left
          omega
        · rw [if_neg e2]
          exact q
    · rw [set_sum vl, set_sum ce]
      have q := I.sum
      omega
end
theorem atk_map {α : Type} {xs : List α} {g : α → Int} {u : Int} {a : α} (h : xs[u.toNat]? = some a) : atk (xs.map g) u = g a := by
  unfold atk
  rw [List.getD_eq_getElem?_getD, List.getElem?_map, h]
  rfl
theorem sum_map_sub {α : Type} (f g : α → Int) : ∀ l : List α, (l.map fun x => f x - g x).sum = (l.map f).sum - (l.map g).sum
  | [] => rfl
  | x :: r => by
    simp only [List.map_cons, List.sum_cons, sum_map_sub f g r]
    omega
theorem linv_start {as cs : List Int} (hR : InR cs.length as) (hs : cs.sum = (as.length : Int)) (hp : ∀ x ∈ cs, 0 ≤ x) : LInv as cs.length 0 (cnt cs.length as) ((pz cs as).map lvg) ((pz cs as).map ent) := by
  have get : ∀ u : Int, 0 ≤ u → u < (cs.length : Int) → ∃ y, 0 ≤ y ∧ (pz cs as)[u.toNat]? = some (((as.count u : Nat) : Int), y) := fun u a b => by
    have h1 : u.toNat < cs.length := by omega
    have g1 := cnt_get (v := cs.length) (as := as) h1
    rw [show ((u.toNat : Nat) : Int) = u by omega] at g1
    have g2 : cs[u.toNat]? = some cs[u.toNat] := List.getElem?_eq_getElem h1
    exact ⟨cs[u.toNat], hp _ (List.getElem_mem h1), pz_get g1 g2⟩
  refine ⟨cnt_length _ _, by rw [List.length_map, pz_length], by rw [List.length_map, pz_length], fun u a b => ?_, fun u a b => ?_, fun u a b => ?_, fun u a b => ?_, fun u a b => ?_, ?_⟩
  · have h1 : u.toNat < cs.length := by omega
    have g1 := cnt_get (v := cs.length) (as := as) h1
    rw [show ((u.toNat : Nat) : Int) = u by omega] at g1
    unfold atk
    rw [List.getD_eq_getElem?_getD, g1]
    rfl
  · obtain ⟨y, y0, g⟩ := get u a b
    rw [atk_map g]
    unfold lvg
    simp only
    split <;> omega
  · obtain ⟨y, y0, g⟩ := get u a b
    rw [atk_map g]
    have h1 : u.toNat < cs.length := by omega
    have g1 := cnt_get (v := cs.length) (as := as) h1
    rw [show ((u.toNat : Nat) : Int) = u by omega] at g1
    have e : atk (cnt cs.length as) u = ((as.count u : Nat) : Int) := by
      unfold atk
      rw [List.getD_eq_getElem?_getD, g1]
      rfl
    rw [e]
    unfold lvg
    simp only
    split <;> omega
  · obtain ⟨y, y0, g⟩ := get u a b
    rw [atk_map g]
    unfold ent
    simp only
    split <;> omega
  · obtain ⟨y, y0, g⟩ := get u a b
    rw [atk_map g, atk_map g]
    unfold lvg ent
    simp only
    split <;> split <;> omega
  · have e1 : ((pz cs as).map fun p => lvg p - ent p) = (pz cs as).map fun p => p.1 - p.2 := List.map_congr_left fun p _ => by
      unfold lvg ent
      split <;> split <;> omega
    have e2 := sum_map_sub lvg ent (pz cs as)
    have e3 := sum_map_sub (fun p : Int × Int => p.1) (fun p => p.2) (pz cs as)
    rw [e1, e3] at e2
    have m1 : (pz cs as).map (fun p : Int × Int => p.1) = cnt cs.length as := map_fst_zip (cnt_length _ _)
    have m2 : (pz cs as).map (fun p : Int × Int => p.2) = cs := map_snd_zip (cnt_length _ _)
    rw [m1, m2, cnt_sum hR, hs] at e2
    omega
end K17
namespace K17
open PySem PySem.Spec PyProof.Rows L2
section
variable {P : Program} {w : World} {K : PySem.W.Frag} {mg : Str → Option Value} {base : Heap}
/-! ### completed, first_change -/
/-- what an allocation and an assignment of its buckets are -/
structure Fit (cs as : List Int) : Prop where
  ok : AlOk cs
  inr : InR cs.length as
  sum : cs.sum = (as.length : Int)
theorem Fit.len {cs as : List Int} (f : Fit cs as) : as.length ≤ 20 := by
  have h1 := f.sum
  have h2 := f.ok.sum
  omega
def spCompleted : Sp := fun vs H Q _ => ∃ (al t be : Addr) (cs as : List Int), vs = [.ref al, .ref t, .ref be] ∧ Rd H al (.tup (cs.map V.int)) ∧ TupD H t (as.map V.int) ∧ Rd H be (.tup []) ∧ Fit cs as ∧
  ∀ (H' : Hp) (p : Addr) (bs : List Int), Same H H' → TupD H' p (bs.map V.int) → bs.length = as.length → InR cs.length bs → Q (.ref p) H'
theorem scCompleted : FnScope ["allocation", "assignment", "begun", "moves", "found", "bucket", "chosen"] ["allocation", "assignment", "begun"] (defScope sCompleted) := ⟨rfl, rfl, rfl, by decide +kernel, rfl, by decide +kernel, by decide +kernel⟩
theorem ok_completed {f C fO fT : Addr} {fd fdO fdT : FuncData} (F : DefAt K mg "completed" sCompleted ["allocation", "assignment", "begun"] f fd) (B : Blt mg) (T : MCls K C) (C1 : Cal P w K mg base 3 "moves_of" ["allocation", "assignment"] (spMovesOf C))
    (mO : Meth K C "options" fO) (GO : FnOk P w K mg base CX0 1 fO fdO ["self", "bucket"] (spOptions C)) (bO : Binds K fdO ["self", "bucket"] [])
    (mT : Meth K C "take" fT) (GT : FnOk P w K mg base CX0 1 fT fdT ["self", "bucket", "chosen"] (spTake C)) (bT : Binds K fdT ["self", "bucket", "chosen"] []) : FnOk P w K mg base CX0 4 f fd ["allocation", "assignment", "begun"] spCompleted := by
  obtain ⟨f1, fd1, G1, g1, kp1, b1⟩ := C1
  refine F.1.ok scCompleted (fun vs H Q E h => ?_) (fun cdv A outer s H vs Q E hr h => ?_)
  · obtain ⟨al, t, be, cs, as, rfl, _⟩ := h
    rfl
  · obtain ⟨al, t, be, cs, as, rfl, hal, ht, hbe, fit, q⟩ := h
    have nd := scCompleted.nd
    have hr1 : Room 1 _ := hr.mono (by decide)
    have h20 := fit.len
    have hk := fit.ok.hi
    refine ⟨_, pss_cons (ps_set (i := 3) nd rfl (.inl rfl) (pe_call G1 hr (by rfl) g1 kp1 b1 .nil pass0 (pa_cons (pv 0) (pa_cons (pv 1) pa_nil))))
      (pss_cons (ps_set (i := 4) nd rfl (.inl rfl) (pe_lst pa_nil))
      (pss_cons (ps_for PassesOwn.never rfl (pi_range1 rfl B.range (pa_cons (pe_callB call_len (by rfl) B.len (by decide +kernel) (pa_cons (pv 1) pa_nil)) pa_nil)) (pg_name (i := 5) nd rfl (.inl rfl))
        (pss_cons (ps_set (i := 6) nd rfl (.inl rfl) (pe_ifExp (pt_cmpR op_lt (pv 5) (pe_callB call_len (by rfl) B.len (by decide +kernel) (pa_cons (pv 2) pa_nil)) (nomark _)) (pe_ix ix_tup (pv 2) (pv 5) (fun _ _ => rfl))
          (pe_ix ix_list (pe_meth (pv 3) T.cl mO GO hr1 bO .nil pass0 (pa_cons (pv 5) pa_nil)) pe_int (fun _ _ => rfl))))
        (pss_cons (ps_expr (pe_meth (pv 3) T.cl mT GT hr1 bT .nil pass0 (pa_cons (pv 5) (pa_cons (pv 6) pa_nil))))
        (pss_one (ps_expr (pe_bm PySem.F.plainAttrs_list PySem.F.slot_list_append PySem.F.type_list_append mt_append (pv 4) (pa_cons (pv 6) pa_nil)))))))
      (pss_one (ps_ret (pe_callTy call_tuple_ofD (by rfl) B.tuple (by decide +kernel) (pa_cons (pv 4) pa_nil)))))), ?_⟩
    refine ⟨_, rfl, _, rfl, al, t, cs, as, rfl, hal, ht, hk, fun H1 m s1 hmt M1 mw ml me => ?_⟩
    refine ⟨Nat.zero_le _, fun fo nfo => ?_⟩
    have fow : fo ≠ m.w := (ne_of_none M1.w nfo).symm
    have fol : fo ≠ m.l := (ne_of_none M1.l nfo).symm
    have foe : fo ≠ m.e := (ne_of_none M1.e nfo).symm
    have fo0 : H fo = Option.none := s1.free nfo
    have s2 : Same H1 (upd H1 fo (.lst [])) := same_upd nfo
    have s02 := s1.trans s2
    refine ⟨_, rfl, _, _, rfl, .inr ⟨_, (same_tupD s02 ht).sq, rfl⟩, _, rfl, by omega, by rw [List.length_map]; omega, ?_⟩
    refine for_it walk_range (fun i σ H' => (∃ y5 y6, σ = [some (.ref al), some (.ref t), some (.ref be), some (.ref m.x), some (.ref fo), y5, y6]) ∧ Same H H' ∧
        ∃ ws ls es bs : List Int, MovAt C H' m as ws ls es ∧ LInv as cs.length i ws ls es ∧ H' fo = some (.lst (bs.map V.int)) ∧ bs.length = i ∧ InR cs.length bs) ?_ (fun _ _ _ _ _ => trivial) ?_ ?_
    · exact ⟨⟨_, _, rfl⟩, s02, _, _, _, [], M1.same s2, linv_start fit.inr fit.sum fit.ok.pos, upd_same, rfl, fun a ha => by cases ha⟩
    · rintro i x σ H2 H3 hi ⟨⟨y5, y6, rfl⟩, sm, ws, ls, es, bs, M, I, hfo, hbl, hbR⟩ ⟨rfl, rfl⟩
      have hi' : i < as.length := by
        rw [List.length_map] at hi
        simpa using hi
      have hv : as[i]? = some as[i] := List.getElem?_eq_getElem hi'
      generalize as[i] = v at hv
      obtain ⟨v0, v1⟩ := fit.inr v (List.mem_of_getElem? hv)
      have vw : 0 ≤ v ∧ v < (ws.length : Int) := ⟨v0, by rw [I.w]; exact v1⟩
      have ei : V.int (0 + (i : Int)) = V.int (i : Int) := by rw [Int.zero_add]
      refine ⟨_, rfl, _, rfl, _, _, rfl, .inr ⟨_, rd_sq (same_rd sm hbe), rfl⟩, _, _, rfl, rfl, false, ?_, iteF ?_⟩
      · show V.bl (decide (0 + (i : Int) < (([] : List V).length : Int))) = V.bl false
        rw [decide_eq_false (by simp)]
      refine ⟨_, rfl, m.x, m.dx, _, rfl, M.x, mf_o _ _ _ _, _, rfl, m, as, ws, ls, es, i, v, ?_, M, hv, vw, by rw [I.w, I.l], by rw [I.e]; exact hk, fun H4 p os s4 hp hperm => ?_⟩
      · show [V.ref m.x, V.int (0 + (i : Int))] = [V.ref m.x, V.int (i : Int)]
        rw [ei]
      have hne := opts_some I hv v0 v1
      cases os with
      | nil => exact absurd (List.nil_perm.mp hperm) hne
      | cons c r =>
        have hc : c ∈ opts v ws ls es := hperm.mem_iff.mp List.mem_cons_self
        obtain ⟨⟨c0, c1⟩, I'⟩ := linv_step I hv v0 v1 hc
        refine ⟨p, _, _, _, rfl, rfl, SqL.of hp, at_int (Int.le_refl _) rfl, ?_⟩
        have M4 := M.same s4
        have sm4 := sm.trans s4
        refine ⟨_, rfl, m.x, m.dx, _, rfl, M4.x, mf_t _ _ _ _, _, rfl, _, rfl, m, as, ws, ls, es, i, v, c, ?_, M4, hv, vw, by rw [I.w, I.l], ⟨c0, by rw [I.e]; exact c1⟩, fun H5 b5 M5 => ?_⟩
        · show [V.ref m.x, V.int (0 + (i : Int)), V.int c] = [V.ref m.x, V.int (i : Int), V.int c]
          rw [ei]
        have sm5 : Same H H5 := fun b o e => b5 _ _ (ne_of_none e mw) (ne_of_none e ml) (ne_of_none e me) (sm4 _ _ e)
        have hfo5 : H5 fo = some (.lst (bs.map V.int)) := b5 _ _ fow fol foe (s4 _ _ hfo)
        refine ⟨_, rfl, .inl ⟨rfl, _, SqL.of hfo5⟩, _, rfl, fo, _, _, rfl, rfl, hfo5, ?_, ?_⟩
        · rw [List.length_map]
          exact small_of (m := 20) (by omega)
        have nfx : m.x ≠ fo ∧ m.t ≠ fo := M5.ne hfo5
        refine ⟨⟨_, _, rfl⟩, fun b o e => ?_, _, _, _, bs ++ [c], ⟨?_, tupD_upd M5.t nfx.2, ?_, ?_, ?_, M5.wl, M5.we, M5.le⟩, I', ?_, ?_, ?_⟩
        · rw [upd_ne (ne_of_none e fo0)]
          exact sm5 _ _ e
        · rw [upd_ne nfx.1]; exact M5.x
        · rw [upd_ne fow.symm]; exact M5.w
        · rw [upd_ne fol.symm]; exact M5.l
        · rw [upd_ne foe.symm]; exact M5.e
        · rw [upd_same, List.map_append]
          rfl
        · rw [List.length_append, hbl]
          rfl
        · intro a ha
          rcases List.mem_append.mp ha with ha | ha
          · exact hbR a ha
          · rw [List.mem_singleton.mp ha]
            exact ⟨c0, c1⟩
    · rintro σ H2 ⟨⟨y5, y6, rfl⟩, sm, ws, ls, es, bs, M, I, hfo, hbl, hbR⟩
      refine ⟨_, rfl, _, _, rfl, SqL.of hfo, fun p o np od => q _ p bs (sm.trans (same_upd np)) ⟨o, od, upd_same⟩ ?_ hbR⟩
      rw [hbl, List.length_map]
      simp
def spFirst : Sp := fun vs H Q _ => ∃ (al t : Addr) (cs as : List Int), vs = [.ref al, .ref t] ∧ Rd H al (.tup (cs.map V.int)) ∧ TupD H t (as.map V.int) ∧ Fit cs as ∧
  ∀ (H' : Hp) (p : Addr) (bs : List Int), Same H H' → TupD H' p (bs.map V.int) → bs.length = as.length → InR cs.length bs → Q (.ref p) H'
theorem scFirst : FnScope ["allocation", "assignment"] ["allocation", "assignment"] (defScope sFirst) := ⟨rfl, rfl, rfl, by decide +kernel, rfl, by decide +kernel, by decide +kernel⟩
theorem ok_first {f : Addr} {fd : FuncData} (F : DefAt K mg "first_change" sFirst ["allocation", "assignment"] f fd) (C1 : Cal P w K mg base 4 "check_allocation" ["value"] spChkAlloc) (C2 : Cal P w K mg base 4 "check_assignment" ["allocation", "value", "name"] spChkAssign)
    (C3 : Cal P w K mg base 4 "completed" ["allocation", "assignment", "begun"] spCompleted) : FnOk P w K mg base CX0 5 f fd ["allocation", "assignment"] spFirst := by
  obtain ⟨f1, fd1, G1, g1, kp1, b1⟩ := C1
  obtain ⟨f2, fd2, G2, g2, kp2, b2⟩ := C2
  obtain ⟨f3, fd3, G3, g3, kp3, b3⟩ := C3
  refine F.1.ok scFirst (fun vs H Q E h => ?_) (fun cdv A outer s H vs Q E hr h => ?_)
  · obtain ⟨al, t, cs, as, rfl, _⟩ := h
    rfl
  · obtain ⟨al, t, cs, as, rfl, hal, ht, fit, q⟩ := h
    refine ⟨_, pss_cons (ps_expr (pe_call G1 hr (by rfl) g1 kp1 b1 .nil pass0 (pa_cons (pv 0) pa_nil)))
      (pss_cons (ps_expr (pe_call G2 hr (by rfl) g2 kp2 b2 .nil pass0 (pa_cons (pv 0) (pa_cons (pv 1) (pa_cons pe_str pa_nil)))))
      (pss_one (ps_ret (pe_call G3 hr (by rfl) g3 kp3 b3 .nil pass0 (pa_cons (pv 0) (pa_cons (pv 1) (pa_cons (pe_tup pa_nil) pa_nil))))))), ?_⟩
    refine ⟨_, rfl, al, cs, rfl, hal, fit.ok, fun H1 s1 => ?_⟩
    refine ⟨_, rfl, _, rfl, al, t, cs, as, _, rfl, same_rd s1 hal, (same_tupD s1 ht).rd, fit.inr, fit.len, fit.sum, fun H2 s2 => ?_⟩
    have s02 := s1.trans s2
    refine ⟨_, rfl, _, rfl, Nat.zero_le _, fun be nbe => ?_⟩
    have s3 := s02.trans (same_upd (o := .tup []) nbe)
    exact ⟨al, t, be, cs, as, rfl, same_rd s3 hal, same_tupD s3 ht, .inl upd_same, fit, fun H4 p bs s4 hp hl hR => q H4 p bs (s3.trans s4) hp hl hR⟩
end
end K17
namespace K17
open PySem PySem.Spec PyProof.Rows L2
/-! ### the sizes that the counting needs -/
theorem comb_small : ∀ i : _root_.Fin 21, ∀ j : _root_.Fin 21, PySem.W.mcComb (i.val : Int) (j.val : Int) < 18446744073709551616 := by decide +kernel
theorem comb_lt {i j : Int} (h0 : 0 ≤ i) (h1 : i ≤ 20) (h2 : 0 ≤ j) : -(2 ^ 64) < PySem.W.mcComb i j ∧ PySem.W.mcComb i j < 2 ^ 64 := by
  have hp := (PySem.W.mc_comb_known h0 h2).1
  refine ⟨by omega, ?_⟩
  by_cases h : j > i
  · rw [PySem.W.mcComb_above h]
    decide
  · have q := comb_small ⟨i.toNat, by omega⟩ ⟨j.toNat, by omega⟩
    simp only at q
    rw [show ((i.toNat : Nat) : Int) = i by omega, show ((j.toNat : Nat) : Int) = j by omega] at q
    exact q
theorem facZ_pos (z : Int) : 1 ≤ facZ z := by
  have h := PySem.W.mc_fac_pos z.toNat
  unfold facZ
  omega
theorem facZ_div {i m : Int} (h1 : m ≤ 100) : CDivW i (facZ m) := by
  have h := facZ_pos m
  refine wide_div (b := 6401) (by omega) ?_ (by decide) (by decide)
  have q := PySem.W.mc_fac_le m.toNat (by omega)
  unfold facZ
  rw [Int.natAbs_natCast]
  exact Nat.lt_of_le_of_lt q (Nat.pow_lt_pow_right (by decide) (by omega))
theorem sum_bound : ∀ {xs : List Int} {b : Int}, (∀ x ∈ xs, 0 ≤ x ∧ x ≤ b) → 0 ≤ xs.sum ∧ xs.sum ≤ b * (xs.length : Int)
  | [], b, _ => by
    show (0 : Int) ≤ 0 ∧ (0 : Int) ≤ b * 0
    omega
  | x :: r, b, h => by
    have ih := sum_bound (xs := r) (b := b) fun y hy => h y (List.mem_cons_of_mem _ hy)
    have hx := h x List.mem_cons_self
    rw [List.sum_cons, List.length_cons]
    have e : b * ((r.length + 1 : Nat) : Int) = b * (r.length : Int) + b := by
      rw [Int.natCast_add, Int.mul_add]
      show _ + b * 1 = _
      rw [Int.mul_one]
    omega
section
variable {P : Program} {w : World} {K : PySem.W.Frag} {mg : Str → Option Value} {base : Heap}
/-! ### ways, count_changes -/
def Small (ps : List (Int × Int)) : Prop := ps.length ≤ 5 ∧ ∀ p ∈ ps, (0 ≤ p.1 ∧ p.1 ≤ 20) ∧ (0 ≤ p.2 ∧ p.2 ≤ 20)
def spWays (C : Addr) : Sp := fun vs H Q _ => ∃ (m : MA) (as : List Int) (ps : List (Int × Int)), vs = [.ref m.x] ∧ MovAt C H m as (ps.map Prod.fst) (ps.map lvg) (ps.map ent) ∧ Small ps ∧ ∀ H' : Hp, Same H H' → Q (.int (waysF facZ PySem.W.mcComb ps)) H'
theorem scWays : FnScope ["moves", "total", "many", "waiting", "leaving"] ["moves"] (defScope sWays) := ⟨rfl, rfl, rfl, by decide +kernel, rfl, by decide +kernel, by decide +kernel⟩
theorem ok_ways {f C : Addr} {fd : FuncData} (F : DefAt K mg "ways" sWays ["moves"] f fd) (B : Blt mg) (T : MCls K C) (Z : Cst mg) : FnOk P w K mg base CX0 1 f fd ["moves"] (spWays C) := by
  refine F.1.ok scWays (fun vs H Q E h => ?_) (fun cdv A outer s H vs Q E hr h => ?_)
  · obtain ⟨m, as, ps, rfl, _⟩ := h
    rfl
  · obtain ⟨m, as, ps, rfl, M, ⟨hl5, hsm⟩, q⟩ := h
    have nd := scWays.nd
    refine ⟨_, pss_cons (ps_set (i := 1) nd rfl (.inl rfl) (pe_callBfun cr_fac (by rfl) Z.fac (pa_cons (pe_callB (cr_sum rfl) (by rfl) B.sum (by decide +kernel) (pa_cons (pe_fld (pv 0) rfl) pa_nil)) pa_nil)))
      (pss_cons (ps_for PassesOwn.never rfl (pi_list (pe_fld (pv 0) rfl)) (pg_name (i := 2) nd rfl (.inl rfl))
        (pss_one (ps_set (i := 1) nd rfl (.inl rfl) (pe_op op_fdivW (pv 1) (pe_callBfun cr_fac (by rfl) Z.fac (pa_cons (pv 2) pa_nil))))))
      (pss_cons (ps_for PassesOwn.never rfl (pi_zip (by rfl) B.zip (pa_cons (pe_fld (pv 0) rfl) (pa_cons (pe_fld (pv 0) rfl) pa_nil)))
        (pg_tup rfl (pgs_cons (pg_name (i := 3) nd rfl (.inl rfl)) (pgs_cons (pg_name (i := 4) nd rfl (.inl rfl)) pgs_nil)))
        (pss_one (ps_set (i := 1) nd rfl (.inl rfl) (pe_op op_mul (pv 1) (pe_callBfun cr_comb (by rfl) Z.comb (pa_cons (pv 3) (pa_cons (pv 4) pa_nil)))))))
      (pss_one (ps_ret (pv 1))))), ?_⟩
    have he : ∀ x ∈ ps.map ent, 0 ≤ x ∧ x ≤ 20 := fun x hx => by
      obtain ⟨p, hp, rfl⟩ := List.mem_map.mp hx
      have h2 := hsm p hp
      unfold ent
      split <;> omega
    have hs := sum_bound he
    rw [List.length_map] at hs
    have hs2 : (ps.map ent).sum ≤ 100 := by omega
    refine ⟨_, rfl, m.x, C, m.dx, _, _, rfl, M.x, T.cl, T.ne, mf_e _ _ _ _, _, _, rfl, SqL.of M.e, _, rfl, hs.1, hs2, ?_⟩
    refine ⟨_, rfl, m.x, C, m.dx, _, _, rfl, M.x, T.cl, T.ne, mf_e _ _ _ _, m.e, rfl, ⟨_, SqL.of M.e⟩, ?_⟩
    refine for_it walk_list (fun i σ H' => Same H H' ∧ ∃ y2 y3 y4, σ = [some (.ref m.x), some (.int (((ps.map ent).take i).foldl (fun t m => t / facZ m) (facZ (ps.map ent).sum))), y2, y3, y4]) ⟨Same.refl _, _, _, _, rfl⟩
      (fun i σ H' _ p => SqL.of (p.1 _ _ M.e)) ?_ ?_
    · rintro i x σ H1 H2 hi ⟨sm, y2, y3, y4, rfl⟩ ⟨rfl, hx⟩
      obtain ⟨n, hn, rfl⟩ := get_map hx
      have h2 := he n (List.mem_of_getElem? hn)
      refine ⟨_, rfl, _, rfl, _, rfl, h2.1, by omega, _, _, rfl, rfl, facZ_div (by omega), sm, some (.int n), y3, y4, ?_⟩
      rw [take_step hn, List.foldl_append]
      rfl
    · rintro σ H1 ⟨sm, y2, y3, y4, rfl⟩
      rw [List.take_of_length_le (by simp)]
      generalize hT1 : (ps.map ent).foldl (fun t m => t / facZ m) (facZ (ps.map ent).sum) = T1
      have M1 := M.same sm
      refine ⟨_, rfl, m.x, C, m.dx, _, _, rfl, M1.x, T.cl, T.nw, mf_w _ _ _ _, _, rfl, m.x, C, m.dx, _, _, rfl, M1.x, T.cl, T.nl, mf_l _ _ _ _, m.w, m.l, _, _, rfl, SqL.of M1.w, SqL.of M1.l, ?_⟩
      have hm : min ((ps.map Prod.fst).map V.int).length ((ps.map lvg).map V.int).length = ps.length := by
        simp only [List.length_map]
        omega
      refine for_it (walk_zip hm.symm) (fun i σ H' => Same H H' ∧ ∃ y2 y3 y4, σ = [some (.ref m.x), some (.int ((ps.take i).foldl (fun t p => t * PySem.W.mcComb p.1 (lvg p)) T1)), y2, y3, y4]) ⟨sm, _, _, _, rfl⟩
        (fun i σ H' _ p => ⟨SqL.of (p.1 _ _ M.w), SqL.of (p.1 _ _ M.l)⟩) ?_ ?_
      · rintro i x σ H2 H3 hi ⟨sm2, y2, y3, y4, rfl⟩ ⟨U, x0, y0, rfl, nU, rfl, e0, e1⟩
        obtain ⟨a, ha, rfl⟩ := get_map e0
        obtain ⟨b, hb, rfl⟩ := get_map e1
        have hp : ps[i]? = some ps[i] := List.getElem?_eq_getElem hi
        generalize ps[i] = p at hp
        rw [List.getElem?_map, hp] at ha hb
        have ha := Option.some.inj ha
        have hb := Option.some.inj hb
        subst ha hb
        have h2 := hsm p (List.mem_of_getElem? hp)
        have hl0 : 0 ≤ lvg p := by
          unfold lvg
          split <;> omega
        refine ⟨U, [.int p.1, .int (lvg p)], rfl, SqT.of upd_same, rfl, _, _, rfl, _, _, rfl, rfl, ?_⟩
        refine ⟨_, rfl, _, rfl, _, rfl, _, _, rfl, h2.1.1, by omega, hl0, _, _, rfl, rfl, .inr (comb_lt h2.1.1 h2.1.2 hl0), sm2.trans (same_upd nU), y2, some (.int p.1), some (.int (lvg p)), ?_⟩
        rw [take_step hp, List.foldl_append]
        rfl
      · rintro σ H2 ⟨sm2, y2, y3, y4, rfl⟩
        refine ⟨_, rfl, ?_⟩
        have hq := q _ sm2
        unfold waysF at hq
        rw [hT1] at hq
        rw [List.take_of_length_le (Nat.le_refl _)]
        exact hq
theorem pz_small {cs as : List Int} (f : Fit cs as) : Small (pz cs as) := by
  refine ⟨by rw [pz_length]; exact f.ok.hi, fun p hp => ?_⟩
  have h20 := f.len
  obtain ⟨a, b⟩ := p
  obtain ⟨h1, h2⟩ := List.of_mem_zip hp
  unfold cnt at h1
  obtain ⟨i, _, rfl⟩ := List.mem_map.mp h1
  have h3 := List.count_le_length (a := (i : Int)) (l := as)
  have h4 := f.ok.pos b h2
  have h5 : b ≤ cs.sum := by
    obtain ⟨j, hj⟩ := List.mem_iff_getElem?.mp h2
    have hjl := (List.getElem?_eq_some_iff.mp hj).1
    have q := le_sum (xs := cs) (v := (j : Int)) (fun u a b => f.ok.pos _ (atk_mem ⟨a, b⟩)) (by omega) (by omega)
    have e := atk_get (xs := cs) (k := (j : Int)) (by omega)
    rw [Int.toNat_natCast, hj] at e
    rw [← Option.some.inj e] at q
    exact q
  have h6 := f.ok.sum
  simp only
  omega
def spCount : Sp := fun vs H Q _ => ∃ (al t : Addr) (cs as : List Int), vs = [.ref al, .ref t] ∧ Rd H al (.tup (cs.map V.int)) ∧ TupD H t (as.map V.int) ∧ Fit cs as ∧ ∀ H' : Hp, Same H H' → Q (.int (waysF facZ PySem.W.mcComb (pz cs as))) H'
theorem scCount : FnScope ["allocation", "assignment"] ["allocation", "assignment"] (defScope sCount) := ⟨rfl, rfl, rfl, by decide +kernel, rfl, by decide +kernel, by decide +kernel⟩
theorem ok_count {f C : Addr} {fd : FuncData} (F : DefAt K mg "count_changes" sCount ["allocation", "assignment"] f fd) (C1 : Cal P w K mg base 4 "check_allocation" ["value"] spChkAlloc) (C2 : Cal P w K mg base 4 "check_assignment" ["allocation", "value", "name"] spChkAssign)
    (C3 : Cal P w K mg base 3 "moves_of" ["allocation", "assignment"] (spMovesOf C)) (C4 : Cal P w K mg base 1 "ways" ["moves"] (spWays C)) : FnOk P w K mg base CX0 5 f fd ["allocation", "assignment"] spCount := by
  obtain ⟨f1, fd1, G1, g1, kp1, b1⟩ := C1
  obtain ⟨f2, fd2, G2, g2, kp2, b2⟩ := C2
  obtain ⟨f3, fd3, G3, g3, kp3, b3⟩ := C3
  obtain ⟨f4, fd4, G4, g4, kp4, b4⟩ := C4
  refine F.1.ok scCount (fun vs H Q E h => ?_) (fun cdv A outer s H vs Q E hr h => ?_)
  · obtain ⟨al, t, cs, as, rfl, _⟩ := h
    rfl
  · obtain ⟨al, t, cs, as, rfl, hal, ht, fit, q⟩ := h
    refine ⟨_, pss_cons (ps_expr (pe_call G1 hr (by rfl) g1 kp1 b1 .nil pass0 (pa_cons (pv 0) pa_nil)))
      (pss_cons (ps_expr (pe_call G2 hr (by rfl) g2 kp2 b2 .nil pass0 (pa_cons (pv 0) (pa_cons (pv 1) (pa_cons pe_str pa_nil)))))
      (pss_one (ps_ret (pe_call G4 (hr.mono (by decide)) (by rfl) g4 kp4 b4 .nil pass0 (pa_cons (pe_call G3 (hr.mono (by decide)) (by rfl) g3 kp3 b3 .nil pass0 (pa_cons (pv 0) (pa_cons (pv 1) pa_nil))) pa_nil))))), ?_⟩
    refine ⟨_, rfl, al, cs, rfl, hal, fit.ok, fun H1 s1 => ?_⟩
    refine ⟨_, rfl, _, rfl, al, t, cs, as, _, rfl, same_rd s1 hal, (same_tupD s1 ht).rd, fit.inr, fit.len, fit.sum, fun H2 s2 => ?_⟩
    have s02 := s1.trans s2
    refine ⟨_, rfl, _, rfl, al, t, cs, as, rfl, same_rd s02 hal, same_tupD s02 ht, fit.ok.hi, fun H3 m s3 hmt M _ _ _ => ?_⟩
    have e : (pz cs as).map Prod.fst = cnt cs.length as := map_fst_zip (cnt_length _ _)
    refine ⟨m, as, pz cs as, rfl, ?_, pz_small fit, fun H4 s4 => q H4 (s02.trans (s3.trans s4))⟩
    rw [e]
    exact M
end
end K17
namespace K17
open PySem PySem.Spec PyProof.Rows L2
/-! ### the law -/
theorem cnt_ok {v : Nat} {as bs : List Int} (v1 : 1 ≤ v) (v5 : v ≤ 5) (hn : as.length ≤ 20) (hl : as.length = bs.length) (ra : InR v as) (rb : InR v bs) : Fit (cnt v bs) as := by
  refine ⟨⟨by rw [cnt_length]; exact v1, by rw [cnt_length]; exact v5, fun x hx => ?_, ?_⟩, ?_, ?_⟩
  · unfold cnt at hx
    obtain ⟨i, _, rfl⟩ := List.mem_map.mp hx
    exact Int.natCast_nonneg _
  · rw [cnt_sum rb]
    omega
  · rw [cnt_length]
    exact ra
  · rw [cnt_sum rb, hl]
theorem pz_cnt (v : Nat) (as bs : List Int) : pz (cnt v bs) as = (cnt v as).zip (cnt v bs) := by
  unfold pz
  rw [cnt_length]
theorem two_but {H H' : Hp} {v : Nat} {a b p l : Addr} {as bs : List Int} (t : Two H v a b as bs) (s : StrAt H p l) (b' : But p H H') : Two H' v a b as bs := by
  have na := strAt_neT s t.ta.rd
  have nb := strAt_neT s t.tb.rd
  obtain ⟨o1, d1, h1⟩ := t.ta
  obtain ⟨o2, d2, h2⟩ := t.tb
  exact ⟨⟨o1, d1, b' _ _ na h1⟩, ⟨o2, d2, b' _ _ nb h2⟩, t.len, t.ra, t.rb, t.hv, t.v1, t.hn⟩
theorem two_swap {H : Hp} {v : Nat} {a b : Addr} {as bs : List Int} (t : Two H v a b as bs) : Two H v b a bs as :=
  ⟨t.tb, t.ta, t.len.symm, t.rb, t.ra, t.hv, t.v1, by rw [← t.len]; exact t.hn⟩
theorem bool_same {r q : Bool} (h : r = true ↔ q = true) : (!decide (V.bl r = V.bl q)) = false := by
  have e : r = q := by
    cases r <;> cases q <;> simp_all
  rw [e, decide_eq_true rfl]
  rfl
section
variable {P : Program} {w : World} {K : PySem.W.Frag} {mg : Str → Option Value} {base : Heap}
def spLaw (K : PySem.W.Frag) : Sp := fun vs H Q _ => ∃ (a : Addr) (ns : List Int), vs = [.ref a] ∧ SqL K H a (ns.map V.int) ∧ ns.length ≤ 63 ∧ ∀ H', Q (.bl true) H'
theorem scLaw : FnScope ["_law_script", "_law_stream_here", "_law_variants", "_law_buckets", "_law_first", "_law_second", "_law_told", "_law_transfer_here", "_law_order_here", "_law_names", "_law_a", "_law_b", "_law_many"] ["_law_script"] (defScope sLaw) := ⟨rfl, rfl, rfl, by decide +kernel, rfl, by decide +kernel, by decide +kernel⟩
theorem ok_law {f : Addr} {fd : FuncData} (F : DefAt K mg "law" sLaw ["_law_script"] f fd) (B : Blt mg)
    (C1 : Cal P w K mg base 1 "_law_stream" ["_law_script"] (spStream K)) (C2 : Cal P w K mg base 1 "_law_next" ["_law_stream_here", "_law_many"] spNext)
    (C3 : Cal P w K mg base 2 "_law_assignment" ["_law_stream_here", "_law_variants", "_law_buckets"] spDraw) (C4 : Cal P w K mg base 1 "_law_counts" ["_law_assignment_here", "_law_variants"] spLCounts)
    (C5 : Cal P w K mg base 5 "first_change" ["allocation", "assignment"] spFirst) (C6 : Cal P w K mg base 5 "is_minimal" ["variants", "assignment", "other"] spMinimal)
    (C7 : Cal P w K mg base 1 "_law_transfer" ["_law_first", "_law_second"] spLTransfer) (C8' : Cal P w K mg base 1 "_law_churn" ["_law_first", "_law_second"] spLChurn)
    (C9 : Cal P w K mg base 2 "_law_order" ["_law_stream_here", "_law_many"] spOrder) (C10 : Cal P w K mg base 1 "_law_renamed" ["_law_assignment_here", "_law_buckets", "_law_variants"] spRenamed)
    (C11 : Cal P w K mg base 5 "count_changes" ["allocation", "assignment"] spCount) : FnOk P w K mg base CX0 6 f fd ["_law_script"] (spLaw K) := by
  obtain ⟨f1, fd1, G1, g1, kp1, b1⟩ := C1
  obtain ⟨f2, fd2, G2, g2, kp2, b2⟩ := C2
  obtain ⟨f3, fd3, G3, g3, kp3, b3⟩ := C3
  obtain ⟨f4, fd4, G4, g4, kp4, b4⟩ := C4
  obtain ⟨f5, fd5, G5, g5, kp5, b5⟩ := C5
  obtain ⟨f6, fd6, G6, g6, kp6, b6⟩ := C6
  obtain ⟨f7, fd7, G7, g7, kp7, b7⟩ := C7
  obtain ⟨f8, fd8, G8, g8, kp8, b8⟩ := C8'
  obtain ⟨f9, fd9, G9, g9, kp9, b9⟩ := C9
  obtain ⟨f10, fd10, G10, g10, kp10, b10⟩ := C10
  obtain ⟨f11, fd11, G11, g11, kp11, b11⟩ := C11
  refine F.1.ok scLaw (fun vs H Q E h => ?_) (fun cdv A outer s H vs Q E hr h => ?_)
  · obtain ⟨a, ns, rfl, _⟩ := h
    rfl
  · obtain ⟨a, ns, rfl, hS, hlen, q⟩ := h
    have nd := scLaw.nd
    have r1 : Room 1 _ := hr.mono (by decide)
    have r2 : Room 2 _ := hr.mono (by decide)
    refine ⟨_, pss_cons (ps_set (i := 1) nd rfl (.inl rfl) (pe_call G1 r1 (by rfl) g1 kp1 b1 .nil pass0 (pa_cons (pv 0) pa_nil)))
      (pss_cons (ps_set (i := 2) nd rfl (.inl rfl) (pe_op op_add pe_int (pe_call G2 r1 (by rfl) g2 kp2 b2 .nil pass0 (pa_cons (pv 1) (pa_cons pe_int pa_nil)))))
      (C8.pss_cut (ps_set (i := 3) nd rfl (.inl rfl) (pe_call G2 r1 (by rfl) g2 kp2 b2 .nil pass0 (pa_cons (pv 1) (pa_cons pe_int pa_nil))))
      (pss_cons (ps_set (i := 4) nd rfl (.inl rfl) (pe_call G3 r2 (by rfl) g3 kp3 b3 .nil pass0 (pa_cons (pv 1) (pa_cons (pv 2) (pa_cons (pv 3) pa_nil)))))
      (pss_cons (ps_set (i := 5) nd rfl (.inl rfl) (pe_call G3 r2 (by rfl) g3 kp3 b3 .nil pass0 (pa_cons (pv 1) (pa_cons (pv 2) (pa_cons (pv 3) pa_nil)))))
      (C8.pss_cut (ps_if (pt_cmpR op_eq (pe_call G2 r1 (by rfl) g2 kp2 b2 .nil pass0 (pa_cons (pv 1) (pa_cons pe_int pa_nil))) pe_int (nomark _))
        (pss_one (ps_set (i := 5) nd rfl (.inl rfl) (pe_call G5 hr (by rfl) g5 kp5 b5 .nil pass0 (pa_cons (pe_call G4 r1 (by rfl) g4 kp4 b4 .nil pass0 (pa_cons (pv 5) (pa_cons (pv 2) pa_nil))) (pa_cons (pv 4) pa_nil))))) pss_nil)
      (pss_cons (ps_set (i := 6) nd rfl (.inl rfl) (pe_call G6 hr (by rfl) g6 kp6 b6 .nil pass0 (pa_cons (pv 2) (pa_cons (pv 4) (pa_cons (pv 5) pa_nil)))))
      (pss_cons (ps_if (PW.pt (pw_or (pt_not (pt_val (pe_callB call_isi (by rfl) B.isinstance (by decide +kernel) (pa_cons (pv 6) (pa_cons (pe_bltn (v := .ty "bool") (by rfl) B.bool (by decide +kernel) rfl) pa_nil)))))
        (pw_or1 (pt_cmpR op_ne (pe_call G6 hr (by rfl) g6 kp6 b6 .nil pass0 (pa_cons (pv 2) (pa_cons (pv 5) (pa_cons (pv 4) pa_nil)))) (pv 6) (nomark _))))) (pss_one (ps_ret pe_bl)) pss_nil)
      (pss_cons (ps_set (i := 7) nd rfl (.inl rfl) (pe_call G7 r1 (by rfl) g7 kp7 b7 .nil pass0 (pa_cons (pe_call G4 r1 (by rfl) g4 kp4 b4 .nil pass0 (pa_cons (pv 4) (pa_cons (pv 2) pa_nil))) (pa_cons (pe_call G4 r1 (by rfl) g4 kp4 b4 .nil pass0 (pa_cons (pv 5) (pa_cons (pv 2) pa_nil))) pa_nil))))
      (pss_cons (ps_if (pt_cmpR op_ne (pv 6) (pe_cmpR op_eq (pe_call G8 r1 (by rfl) g8 kp8 b8 .nil pass0 (pa_cons (pv 4) (pa_cons (pv 5) pa_nil))) (pv 7) (nomark _)) (nomark _)) (pss_one (ps_ret pe_bl)) pss_nil)
      (pss_cons (ps_set (i := 8) nd rfl (.inl rfl) (pe_call G9 r2 (by rfl) g9 kp9 b9 .nil pass0 (pa_cons (pv 1) (pa_cons (pv 3) pa_nil))))
      (pss_cons (ps_set (i := 9) nd rfl (.inl rfl) (pe_call G9 r2 (by rfl) g9 kp9 b9 .nil pass0 (pa_cons (pv 1) (pa_cons (pv 2) pa_nil))))
      (pss_cons (ps_set (i := 10) nd rfl (.inl rfl) (pe_call G10 r1 (by rfl) g10 kp10 b10 .nil pass0 (pa_cons (pv 4) (pa_cons (pv 8) (pa_cons (pv 9) pa_nil)))))
      (pss_cons (ps_set (i := 11) nd rfl (.inl rfl) (pe_call G10 r1 (by rfl) g10 kp10 b10 .nil pass0 (pa_cons (pv 5) (pa_cons (pv 8) (pa_cons (pv 9) pa_nil)))))
      (pss_cons (ps_if (pt_cmpR op_ne (pe_call G6 hr (by rfl) g6 kp6 b6 .nil pass0 (pa_cons (pv 2) (pa_cons (pv 10) (pa_cons (pv 11) pa_nil)))) (pv 6) (nomark _)) (pss_one (ps_ret pe_bl)) pss_nil)
      (pss_cons (ps_set (i := 12) nd rfl (.inl rfl) (pe_call G11 hr (by rfl) g11 kp11 b11 .nil pass0 (pa_cons (pe_call G4 r1 (by rfl) g4 kp4 b4 .nil pass0 (pa_cons (pv 5) (pa_cons (pv 2) pa_nil))) (pa_cons (pv 4) pa_nil))))
      (pss_one (ps_ret (pe_cmpR op_eq (pe_call G11 hr (by rfl) g11 kp11 b11 .nil pass0 (pa_cons (pe_call G4 r1 (by rfl) g4 kp4 b4 .nil pass0 (pa_cons (pv 11) (pa_cons (pv 2) pa_nil))) (pa_cons (pv 10) pa_nil))) (pv 12) (nomark _))))))))))))))))))), ?_⟩
    refine ⟨_, rfl, a, ns, rfl, hS, fun H1 p l s1 hst => ?_⟩
    refine ⟨_, rfl, p, l, 5, rfl, hst, by decide, by decide, fun H2 d d0 d1 bt2 hs2 => ⟨_, _, rfl, rfl, ?_⟩⟩
    refine ⟨fun σ H' => ∃ v n : Nat, σ = [some (.ref a), some (.ref p), some (.int (v : Int)), some (.int (n : Int)), none, none, none, none, none, none, none, none, none] ∧ StrAt H' p l ∧ 1 ≤ v ∧ v ≤ 5 ∧ n ≤ 20, ?_, ?_⟩
    · refine ⟨_, rfl, p, l, 21, rfl, hs2, by decide, by decide, fun H3 e e0 e1 bt3 hs3 => ?_⟩
      refine ⟨(1 + d).toNat, e.toNat, ?_, hs3, by omega, by omega, by omega⟩
      show [some (V.ref a), some (.ref p), some (.int (1 + d)), some (.int e), none, none, none, none, none, none, none, none, none] = _
      rw [show (((1 + d).toNat : Nat) : Int) = 1 + d by omega, show ((e.toNat : Nat) : Int) = e by omega]
    · rintro σ H3 ⟨v, n, rfl, hs3, v1, v5, n20⟩
      refine ⟨_, rfl, _, rfl, _, rfl, p, l, v, n, rfl, hs3, v1, v5, n20, fun H4 tf as bt4 hs4 hA hAl hAr => ?_⟩
      refine ⟨_, rfl, _, rfl, _, rfl, p, l, v, n, rfl, hs4, v1, v5, n20, fun H5 ts bs bt5 hs5 hB hBl hBr => ?_⟩
      have hA5 : TupD H5 tf (as.map V.int) := by
        have na := strAt_neT hs4 hA.rd
        obtain ⟨o, od, h⟩ := hA
        exact ⟨o, od, bt5 _ _ na h⟩
      have two5 : Two H5 v tf ts as bs := ⟨hA5, hB, by omega, hAr, hBr, v5, v1, by omega⟩
      refine ⟨fun σ H' => ∃ (ts : Addr) (bs : List Int), σ = [some (.ref a), some (.ref p), some (.int (v : Int)), some (.int (n : Int)), some (.ref tf), some (.ref ts), none, none, none, none, none, none, none] ∧ StrAt H' p l ∧ Two H' v tf ts as bs, ?_, ?_⟩
      · refine ⟨_, rfl, p, l, 2, rfl, hs5, by decide, by decide, fun H6 d d0 d1 bt6 hs6 => ⟨rfl, _, rfl, iteB (fun _ => ?_) (fun _ => ?_)⟩⟩
        · have two6 := two_but two5 hs5 bt6
          refine ⟨_, rfl, _, rfl, ts, bs, v, rfl, two6.tb.rd, v5, by rw [← two6.len]; exact two6.hn, fun H7 c s7 nc hc => ?_⟩
          have two7 := two6.same s7
          refine ⟨_, rfl, c, tf, cnt v bs, as, rfl, .inl hc, two7.ta, cnt_ok v1 v5 two7.hn two7.len hAr hBr, fun H8 u us s8 hu hul hur => ?_⟩
          rw [cnt_length] at hur
          have two8 := two7.same s8
          exact ⟨u, us, rfl, strAt_same (strAt_same hs6 s7) s8, two8.ta, hu, hul.symm, hAr, hur, v5, v1, two8.hn⟩
        · exact ⟨ts, bs, rfl, hs6, two_but two5 hs5 bt6⟩
      · rintro σ H6 ⟨ts, bs, rfl, hs6, t6⟩
        have hBr := t6.rb
        have hl := t6.len
        have h20 := t6.hn
        have hbl : bs.length = n := by omega
        clear two5 hB hA5 hBl
        -- told
        refine ⟨_, rfl, _, rfl, _, rfl, tf, ts, as, bs, v, rfl, t6, fun H7 told s7 htold => ?_⟩
        have t7 := t6.same s7
        refine ⟨_, rfl, _, _, .type "bool", .type "bool", true, rfl, .ty "bool", .base (.bl told), kit_ty (by decide +kernel), true, rfl, iteF ?_⟩
        refine ⟨_, rfl, _, rfl, _, rfl, ts, tf, bs, as, v, rfl, two_swap t7, fun H8 r8 s8 hr8 => ⟨_, rfl, rfl, _, rfl, iteD (bool_same ?_) ?_⟩⟩
        · rw [hr8, htold]
          exact ⟨good_symm, good_symm⟩
        have t8 := t7.same s8
        -- the transfer
        refine ⟨_, rfl, _, rfl, tf, as, v, rfl, t8.ta.rd, v5, h20, fun H9 c1 s9 nc1 hc1 => ?_⟩
        have t9 := t8.same s9
        refine ⟨_, rfl, _, rfl, ts, bs, v, rfl, t9.tb.rd, v5, by omega, fun H10 c2 s10 nc2 hc2 => ?_⟩
        have t10 := t9.same s10
        refine ⟨c1, c2, _, _, rfl, .inl (s10 _ _ hc1), .inl hc2, by rw [cnt_length, cnt_length], by rw [cnt_length]; omega, fun H11 s11 => ?_⟩
        have t11 := t10.same s11
        refine ⟨_, rfl, _, rfl, _, rfl, tf, ts, as, bs, rfl, t11.ta.rd, t11.tb.rd, hl, h20, fun H12 s12 => ⟨_, rfl, rfl, rfl, _, rfl, iteD ?_ ?_⟩⟩
        · refine bool_same ?_
          rw [htold, good_churn hl hAr hBr, decide_eq_true_eq]
          exact ⟨fun z => by rw [z], fun z => V.int.inj z⟩
        have t12 := t11.same s12
        have hs12 := strAt_same (strAt_same (strAt_same (strAt_same (strAt_same (strAt_same hs6 s7) s8) s9) s10) s11) s12
        -- the orders
        refine ⟨_, rfl, _, rfl, p, l, n, rfl, hs12, n20, fun H13 o ord bt13 hs13 ho no io => ?_⟩
        have t13 := two_but t12 hs12 bt13
        refine ⟨_, rfl, _, rfl, p, l, v, rfl, hs13, by omega, fun H14 m nm bt14 hs14 hm nm0 im => ?_⟩
        have t14 := two_but t13 hs13 bt14
        have ho14 : H14 o = some (.lst (ord.map V.int)) := bt14 _ _ (strAt_ne hs13 ho) ho
        -- renamed
        have ioA : IsOrd as.length ord := by rw [hl, hbl]; exact io
        have ioB : IsOrd bs.length ord := by rw [hbl]; exact io
        refine ⟨_, rfl, _, rfl, _, rfl, tf, o, m, as, ord, nm, v, rfl, t14.ta.rd, ho14, hm, ioA, im, hAr, h20, fun H15 ta s15 hta => ?_⟩
        have t15 := t14.same s15
        refine ⟨_, rfl, _, rfl, _, rfl, ts, o, m, bs, ord, nm, v, rfl, t15.tb.rd, s15 _ _ ho14, s15 _ _ hm, ioB, im, hBr, by omega, fun H16 tb s16 htb => ?_⟩
        have t16 := t15.same s16
        have ol := ord_length ioA
        have rA := rn_inR rfl ioA im hAr
        have rB := rn_inR rfl ioB im hBr
        have tr : Two H16 v ta tb (rn as ord nm) (rn bs ord nm) := ⟨same_tupD s16 hta, htb, by rw [rn_length, rn_length], rA, rB, v5, v1, by rw [rn_length]; omega⟩
        refine ⟨_, rfl, _, rfl, _, rfl, ta, tb, _, _, v, rfl, tr, fun H17 r17 s17 hr17 => ⟨_, rfl, rfl, _, rfl, iteD (bool_same ?_) ?_⟩⟩
        · rw [hr17, htold]
          exact good_rn rfl hl.symm ioA im hAr hBr
        have t17 := t16.same s17
        have tr17 := tr.same s17
        -- the numbers
        refine ⟨_, rfl, _, rfl, ts, bs, v, rfl, t17.tb.rd, v5, by omega, fun H18 c3 s18 nc3 hc3 => ?_⟩
        refine ⟨_, rfl, c3, tf, _, as, rfl, .inl hc3, (t17.same s18).ta, cnt_ok v1 v5 h20 hl hAr hBr, fun H19 s19 => ?_⟩
        have tr19 := (tr17.same s18).same s19
        refine ⟨_, rfl, _, rfl, tb, _, v, rfl, tr19.tb.rd, v5, by rw [rn_length]; omega, fun H20 c4 s20 nc4 hc4 => ?_⟩
        refine ⟨_, rfl, c4, ta, _, _, rfl, .inl hc4, (tr19.same s20).ta, cnt_ok v1 v5 tr19.hn tr19.len rA rB, fun H21 s21 => ⟨_, rfl, rfl, ?_⟩⟩
        have e : waysF facZ PySem.W.mcComb (pz (cnt v (rn bs ord nm)) (rn as ord nm)) = waysF facZ PySem.W.mcComb (pz (cnt v bs) as) := by
          rw [pz_cnt, pz_cnt]
          exact ways_perm (fun m => Int.le_trans (by decide) (facZ_pos m)) (cnt_rn rfl hl.symm ioA im hAr hBr)
        have ed : decide (V.int (waysF facZ PySem.W.mcComb (pz (cnt v (rn bs ord nm)) (rn as ord nm))) = V.int (waysF facZ PySem.W.mcComb (pz (cnt v bs) as))) = true := decide_eq_true (by rw [e])
        show Q (V.bl (decide (V.int (waysF facZ PySem.W.mcComb (pz (cnt v (rn bs ord nm)) (rn as ord nm))) = V.int (waysF facZ PySem.W.mcComb (pz (cnt v bs) as))))) H21
        rw [ed]
        exact q _
end
end K17
set_option Elab.async false
set_option linter.all false
set_option maxRecDepth 100000
set_option maxHeartbeats 0
namespace K17
open PySem PySem.Spec PyProof.Rows L2
/-! ### what the top has written -/
theorem all_mk {l : PySem.W.OpenLaw} {w : World} {K : PySem.W.Frag} {h : Heap} {mg : Str → Option Value} {fa C : Addr} {tmv tmb : Tok} (X : K.In h) (G : h.Ns mainGlobals mg) (hfa : mg "law" = some (.ref fa))
    {fWhole fBetween fIsAlloc fIsAssign fCounts fInteger fChkVar fSomeAlloc fChkAlloc fChkAssign fNMove fFirstN fNeedless fMinimal fMovesOf fCompleted fFirst fWays fCount fStream fNext fLCounts fLTransfer fLChurn fLAssign fLOrder fLRenamed fLaw fInit fOptions fTake : Addr}
    {odWhole anWhole odBetween anBetween odIsAlloc anIsAlloc odIsAssign anIsAssign odCounts anCounts odInteger anInteger odChkVar anChkVar odSomeAlloc anSomeAlloc odChkAlloc anChkAlloc odChkAssign anChkAssign odNMove anNMove odFirstN anFirstN odNeedless anNeedless odMinimal anMinimal odMovesOf anMovesOf odCompleted anCompleted odFirst anFirst odWays anWays odCount anCount odStream anStream odNext anNext odLCounts anLCounts odLTransfer anLTransfer odLChurn anLChurn odLAssign anLAssign odLOrder anLOrder odLRenamed anLRenamed odLaw anLaw odInit anInit odOptions anOptions odTake anTake : Option Addr}
    {slWhole slBetween slIsAlloc slIsAssign slCounts slInteger slChkVar slSomeAlloc slChkAlloc slChkAssign slNMove slFirstN slNeedless slMinimal slMovesOf slCompleted slFirst slWays slCount slStream slNext slLCounts slLTransfer slLChurn slLAssign slLOrder slLRenamed slLaw slInit slOptions slTake : Array (Option Value)}
    {ocWhole kVWhole dcWhole pmWhole cdWhole ctWhole ocBetween kVBetween dcBetween pmBetween cdBetween ctBetween ocIsAlloc kVIsAlloc dcIsAlloc pmIsAlloc cdIsAlloc ctIsAlloc ocIsAssign kVIsAssign dcIsAssign pmIsAssign cdIsAssign ctIsAssign ocCounts kVCounts dcCounts pmCounts cdCounts ctCounts ocInteger kVInteger dcInteger pmInteger cdInteger ctInteger ocChkVar kVChkVar dcChkVar pmChkVar cdChkVar ctChkVar ocSomeAlloc kVSomeAlloc dcSomeAlloc pmSomeAlloc cdSomeAlloc ctSomeAlloc ocChkAlloc kVChkAlloc dcChkAlloc pmChkAlloc cdChkAlloc ctChkAlloc ocChkAssign kVChkAssign dcChkAssign pmChkAssign cdChkAssign ctChkAssign ocNMove kVNMove dcNMove pmNMove cdNMove ctNMove ocFirstN kVFirstN dcFirstN pmFirstN cdFirstN ctFirstN ocNeedless kVNeedless dcNeedless pmNeedless cdNeedless ctNeedless ocMinimal kVMinimal dcMinimal pmMinimal cdMinimal ctMinimal ocMovesOf kVMovesOf dcMovesOf pmMovesOf cdMovesOf ctMovesOf ocCompleted kVCompleted dcCompleted pmCompleted cdCompleted ctCompleted ocFirst kVFirst dcFirst pmFirst cdFirst ctFirst ocWays kVWays dcWays pmWays cdWays ctWays ocCount kVCount dcCount pmCount cdCount ctCount ocStream kVStream dcStream pmStream cdStream ctStream ocNext kVNext dcNext pmNext cdNext ctNext ocLCounts kVLCounts dcLCounts pmLCounts cdLCounts ctLCounts ocLTransfer kVLTransfer dcLTransfer pmLTransfer cdLTransfer ctLTransfer ocLChurn kVLChurn dcLChurn pmLChurn cdLChurn ctLChurn ocLAssign kVLAssign dcLAssign pmLAssign cdLAssign ctLAssign ocLOrder kVLOrder dcLOrder pmLOrder cdLOrder ctLOrder ocLRenamed kVLRenamed dcLRenamed pmLRenamed cdLRenamed ctLRenamed ocLaw kVLaw dcLaw pmLaw cdLaw ctLaw ocInit kVInit dcInit pmInit cdInit ctInit ocOptions kVOptions dcOptions pmOptions cdOptions ctOptions ocTake kVTake dcTake pmTake cdTake ctTake : Value}
    (aWhole : PySem.W.nsIn K mainGlobals "is_whole" = some (some (.ref fWhole)))
    (lWhole : K.lookup fWhole = some ⟨ocWhole, odWhole, .func (PySem.W.fnOf "is_whole" "is_whole" (defArgs sWhole) (defBody sWhole) (defScope sWhole) .none kVWhole dcWhole pmWhole anWhole cdWhole ctWhole), slWhole⟩)
    (cWhole : PySem.W.codeIn K cdWhole "is_whole" = true)
    (kWhole : PySem.W.keepIn K (.ref fWhole) = true)
    (aBetween : PySem.W.nsIn K mainGlobals "is_between" = some (some (.ref fBetween)))
    (lBetween : K.lookup fBetween = some ⟨ocBetween, odBetween, .func (PySem.W.fnOf "is_between" "is_between" (defArgs sBetween) (defBody sBetween) (defScope sBetween) .none kVBetween dcBetween pmBetween anBetween cdBetween ctBetween), slBetween⟩)
    (cBetween : PySem.W.codeIn K cdBetween "is_between" = true)
    (kBetween : PySem.W.keepIn K (.ref fBetween) = true)
    (aIsAlloc : PySem.W.nsIn K mainGlobals "is_allocation" = some (some (.ref fIsAlloc)))
    (lIsAlloc : K.lookup fIsAlloc = some ⟨ocIsAlloc, odIsAlloc, .func (PySem.W.fnOf "is_allocation" "is_allocation" (defArgs sIsAlloc) (defBody sIsAlloc) (defScope sIsAlloc) .none kVIsAlloc dcIsAlloc pmIsAlloc anIsAlloc cdIsAlloc ctIsAlloc), slIsAlloc⟩)
    (cIsAlloc : PySem.W.codeIn K cdIsAlloc "is_allocation" = true)
    (kIsAlloc : PySem.W.keepIn K (.ref fIsAlloc) = true)
    (aIsAssign : PySem.W.nsIn K mainGlobals "is_assignment" = some (some (.ref fIsAssign)))
    (lIsAssign : K.lookup fIsAssign = some ⟨ocIsAssign, odIsAssign, .func (PySem.W.fnOf "is_assignment" "is_assignment" (defArgs sIsAssign) (defBody sIsAssign) (defScope sIsAssign) .none kVIsAssign dcIsAssign pmIsAssign anIsAssign cdIsAssign ctIsAssign), slIsAssign⟩)
    (cIsAssign : PySem.W.codeIn K cdIsAssign "is_assignment" = true)
    (kIsAssign : PySem.W.keepIn K (.ref fIsAssign) = true)
    (aCounts : PySem.W.nsIn K mainGlobals "counts_of" = some (some (.ref fCounts)))
    (lCounts : K.lookup fCounts = some ⟨ocCounts, odCounts, .func (PySem.W.fnOf "counts_of" "counts_of" (defArgs sCounts) (defBody sCounts) (defScope sCounts) .none kVCounts dcCounts pmCounts anCounts cdCounts ctCounts), slCounts⟩)
    (cCounts : PySem.W.codeIn K cdCounts "counts_of" = true)
    (kCounts : PySem.W.keepIn K (.ref fCounts) = true)
    (aInteger : PySem.W.nsIn K mainGlobals "is_integer" = some (some (.ref fInteger)))
    (lInteger : K.lookup fInteger = some ⟨ocInteger, odInteger, .func (PySem.W.fnOf "is_integer" "is_integer" (defArgs sInteger) (defBody sInteger) (defScope sInteger) .none kVInteger dcInteger pmInteger anInteger cdInteger ctInteger), slInteger⟩)
    (cInteger : PySem.W.codeIn K cdInteger "is_integer" = true)
    (kInteger : PySem.W.keepIn K (.ref fInteger) = true)
    (aChkVar : PySem.W.nsIn K mainGlobals "check_variants" = some (some (.ref fChkVar)))
    (lChkVar : K.lookup fChkVar = some ⟨ocChkVar, odChkVar, .func (PySem.W.fnOf "check_variants" "check_variants" (defArgs sChkVar) (defBody sChkVar) (defScope sChkVar) .none kVChkVar dcChkVar pmChkVar anChkVar cdChkVar ctChkVar), slChkVar⟩)
    (cChkVar : PySem.W.codeIn K cdChkVar "check_variants" = true)
    (kChkVar : PySem.W.keepIn K (.ref fChkVar) = true)
    (aSomeAlloc : PySem.W.nsIn K mainGlobals "is_some_allocation" = some (some (.ref fSomeAlloc)))
    (lSomeAlloc : K.lookup fSomeAlloc = some ⟨ocSomeAlloc, odSomeAlloc, .func (PySem.W.fnOf "is_some_allocation" "is_some_allocation" (defArgs sSomeAlloc) (defBody sSomeAlloc) (defScope sSomeAlloc) .none kVSomeAlloc dcSomeAlloc pmSomeAlloc anSomeAlloc cdSomeAlloc ctSomeAlloc), slSomeAlloc⟩)
    (cSomeAlloc : PySem.W.codeIn K cdSomeAlloc "is_some_allocation" = true)
    (kSomeAlloc : PySem.W.keepIn K (.ref fSomeAlloc) = true)
    (aChkAlloc : PySem.W.nsIn K mainGlobals "check_allocation" = some (some (.ref fChkAlloc)))
    (lChkAlloc : K.lookup fChkAlloc = some ⟨ocChkAlloc, odChkAlloc, .func (PySem.W.fnOf "check_allocation" "check_allocation" (defArgs sChkAlloc) (defBody sChkAlloc) (defScope sChkAlloc) .none kVChkAlloc dcChkAlloc pmChkAlloc anChkAlloc cdChkAlloc ctChkAlloc), slChkAlloc⟩)
    (cChkAlloc : PySem.W.codeIn K cdChkAlloc "check_allocation" = true)
    (kChkAlloc : PySem.W.keepIn K (.ref fChkAlloc) = true)
    (aChkAssign : PySem.W.nsIn K mainGlobals "check_assignment" = some (some (.ref fChkAssign)))
    (lChkAssign : K.lookup fChkAssign = some ⟨ocChkAssign, odChkAssign, .func (PySem.W.fnOf "check_assignment" "check_assignment" (defArgs sChkAssign) (defBody sChkAssign) (defScope sChkAssign) .none kVChkAssign dcChkAssign pmChkAssign anChkAssign cdChkAssign ctChkAssign), slChkAssign⟩)
    (cChkAssign : PySem.W.codeIn K cdChkAssign "check_assignment" = true)
    (kChkAssign : PySem.W.keepIn K (.ref fChkAssign) = true)
    (aNMove : PySem.W.nsIn K mainGlobals "needless_move" = some (some (.ref fNMove)))
    (lNMove : K.lookup fNMove = some ⟨ocNMove, odNMove, .func (PySem.W.fnOf "needless_move" "needless_move" (defArgs sNMove) (defBody sNMove) (defScope sNMove) .none kVNMove dcNMove pmNMove anNMove cdNMove ctNMove), slNMove⟩)
    (cNMove : PySem.W.codeIn K cdNMove "needless_move" = true)
    (kNMove : PySem.W.keepIn K (.ref fNMove) = true)
    (aFirstN : PySem.W.nsIn K mainGlobals "first_needless" = some (some (.ref fFirstN)))
    (lFirstN : K.lookup fFirstN = some ⟨ocFirstN, odFirstN, .func (PySem.W.fnOf "first_needless" "first_needless" (defArgs sFirstN) (defBody sFirstN) (defScope sFirstN) .none kVFirstN dcFirstN pmFirstN anFirstN cdFirstN ctFirstN), slFirstN⟩)
    (cFirstN : PySem.W.codeIn K cdFirstN "first_needless" = true)
    (kFirstN : PySem.W.keepIn K (.ref fFirstN) = true)
    (aNeedless : PySem.W.nsIn K mainGlobals "needless" = some (some (.ref fNeedless)))
    (lNeedless : K.lookup fNeedless = some ⟨ocNeedless, odNeedless, .func (PySem.W.fnOf "needless" "needless" (defArgs sNeedless) (defBody sNeedless) (defScope sNeedless) .none kVNeedless dcNeedless pmNeedless anNeedless cdNeedless ctNeedless), slNeedless⟩)
    (cNeedless : PySem.W.codeIn K cdNeedless "needless" = true)
    (kNeedless : PySem.W.keepIn K (.ref fNeedless) = true)
    (aMinimal : PySem.W.nsIn K mainGlobals "is_minimal" = some (some (.ref fMinimal)))
    (lMinimal : K.lookup fMinimal = some ⟨ocMinimal, odMinimal, .func (PySem.W.fnOf "is_minimal" "is_minimal" (defArgs sMinimal) (defBody sMinimal) (defScope sMinimal) .none kVMinimal dcMinimal pmMinimal anMinimal cdMinimal ctMinimal), slMinimal⟩)
    (cMinimal : PySem.W.codeIn K cdMinimal "is_minimal" = true)
    (kMinimal : PySem.W.keepIn K (.ref fMinimal) = true)
    (aMovesOf : PySem.W.nsIn K mainGlobals "moves_of" = some (some (.ref fMovesOf)))
    (lMovesOf : K.lookup fMovesOf = some ⟨ocMovesOf, odMovesOf, .func (PySem.W.fnOf "moves_of" "moves_of" (defArgs sMovesOf) (defBody sMovesOf) (defScope sMovesOf) .none kVMovesOf dcMovesOf pmMovesOf anMovesOf cdMovesOf ctMovesOf), slMovesOf⟩)
    (cMovesOf : PySem.W.codeIn K cdMovesOf "moves_of" = true)
    (kMovesOf : PySem.W.keepIn K (.ref fMovesOf) = true)
    (aCompleted : PySem.W.nsIn K mainGlobals "completed" = some (some (.ref fCompleted)))
    (lCompleted : K.lookup fCompleted = some ⟨ocCompleted, odCompleted, .func (PySem.W.fnOf "completed" "completed" (defArgs sCompleted) (defBody sCompleted) (defScope sCompleted) .none kVCompleted dcCompleted pmCompleted anCompleted cdCompleted ctCompleted), slCompleted⟩)
    (cCompleted : PySem.W.codeIn K cdCompleted "completed" = true)
    (kCompleted : PySem.W.keepIn K (.ref fCompleted) = true)
    (aFirst : PySem.W.nsIn K mainGlobals "first_change" = some (some (.ref fFirst)))
    (lFirst : K.lookup fFirst = some ⟨ocFirst, odFirst, .func (PySem.W.fnOf "first_change" "first_change" (defArgs sFirst) (defBody sFirst) (defScope sFirst) .none kVFirst dcFirst pmFirst anFirst cdFirst ctFirst), slFirst⟩)
    (cFirst : PySem.W.codeIn K cdFirst "first_change" = true)
    (kFirst : PySem.W.keepIn K (.ref fFirst) = true)
    (aWays : PySem.W.nsIn K mainGlobals "ways" = some (some (.ref fWays)))
    (lWays : K.lookup fWays = some ⟨ocWays, odWays, .func (PySem.W.fnOf "ways" "ways" (defArgs sWays) (defBody sWays) (defScope sWays) .none kVWays dcWays pmWays anWays cdWays ctWays), slWays⟩)
    (cWays : PySem.W.codeIn K cdWays "ways" = true)
    (kWays : PySem.W.keepIn K (.ref fWays) = true)
    (aCount : PySem.W.nsIn K mainGlobals "count_changes" = some (some (.ref fCount)))
    (lCount : K.lookup fCount = some ⟨ocCount, odCount, .func (PySem.W.fnOf "count_changes" "count_changes" (defArgs sCount) (defBody sCount) (defScope sCount) .none kVCount dcCount pmCount anCount cdCount ctCount), slCount⟩)
    (cCount : PySem.W.codeIn K cdCount "count_changes" = true)
    (kCount : PySem.W.keepIn K (.ref fCount) = true)
    (aStream : PySem.W.nsIn K mainGlobals "_law_stream" = some (some (.ref fStream)))
    (lStream : K.lookup fStream = some ⟨ocStream, odStream, .func (PySem.W.fnOf "_law_stream" "_law_stream" (defArgs sStream) (defBody sStream) (defScope sStream) .none kVStream dcStream pmStream anStream cdStream ctStream), slStream⟩)
    (cStream : PySem.W.codeIn K cdStream "_law_stream" = true)
    (kStream : PySem.W.keepIn K (.ref fStream) = true)
    (aNext : PySem.W.nsIn K mainGlobals "_law_next" = some (some (.ref fNext)))
    (lNext : K.lookup fNext = some ⟨ocNext, odNext, .func (PySem.W.fnOf "_law_next" "_law_next" (defArgs sNext) (defBody sNext) (defScope sNext) .none kVNext dcNext pmNext anNext cdNext ctNext), slNext⟩)
    (cNext : PySem.W.codeIn K cdNext "_law_next" = true)
    (kNext : PySem.W.keepIn K (.ref fNext) = true)
    (aLCounts : PySem.W.nsIn K mainGlobals "_law_counts" = some (some (.ref fLCounts)))
    (lLCounts : K.lookup fLCounts = some ⟨ocLCounts, odLCounts, .func (PySem.W.fnOf "_law_counts" "_law_counts" (defArgs sLCounts) (defBody sLCounts) (defScope sLCounts) .none kVLCounts dcLCounts pmLCounts anLCounts cdLCounts ctLCounts), slLCounts⟩)
    (cLCounts : PySem.W.codeIn K cdLCounts "_law_counts" = true)
    (kLCounts : PySem.W.keepIn K (.ref fLCounts) = true)
    (aLTransfer : PySem.W.nsIn K mainGlobals "_law_transfer" = some (some (.ref fLTransfer)))
    (lLTransfer : K.lookup fLTransfer = some ⟨ocLTransfer, odLTransfer, .func (PySem.W.fnOf "_law_transfer" "_law_transfer" (defArgs sLTransfer) (defBody sLTransfer) (defScope sLTransfer) .none kVLTransfer dcLTransfer pmLTransfer anLTransfer cdLTransfer ctLTransfer), slLTransfer⟩)
    (cLTransfer : PySem.W.codeIn K cdLTransfer "_law_transfer" = true)
    (kLTransfer : PySem.W.keepIn K (.ref fLTransfer) = true)
    (aLChurn : PySem.W.nsIn K mainGlobals "_law_churn" = some (some (.ref fLChurn)))
    (lLChurn : K.lookup fLChurn = some ⟨ocLChurn, odLChurn, .func (PySem.W.fnOf "_law_churn" "_law_churn" (defArgs sLChurn) (defBody sLChurn) (defScope sLChurn) .none kVLChurn dcLChurn pmLChurn anLChurn cdLChurn ctLChurn), slLChurn⟩)
    (cLChurn : PySem.W.codeIn K cdLChurn "_law_churn" = true)
    (kLChurn : PySem.W.keepIn K (.ref fLChurn) = true)
    (aLAssign : PySem.W.nsIn K mainGlobals "_law_assignment" = some (some (.ref fLAssign)))
    (lLAssign : K.lookup fLAssign = some ⟨ocLAssign, odLAssign, .func (PySem.W.fnOf "_law_assignment" "_law_assignment" (defArgs sLAssign) (defBody sLAssign) (defScope sLAssign) .none kVLAssign dcLAssign pmLAssign anLAssign cdLAssign ctLAssign), slLAssign⟩)
    (cLAssign : PySem.W.codeIn K cdLAssign "_law_assignment" = true)
    (kLAssign : PySem.W.keepIn K (.ref fLAssign) = true)
    (aLOrder : PySem.W.nsIn K mainGlobals "_law_order" = some (some (.ref fLOrder)))
    (lLOrder : K.lookup fLOrder = some ⟨ocLOrder, odLOrder, .func (PySem.W.fnOf "_law_order" "_law_order" (defArgs sLOrder) (defBody sLOrder) (defScope sLOrder) .none kVLOrder dcLOrder pmLOrder anLOrder cdLOrder ctLOrder), slLOrder⟩)
    (cLOrder : PySem.W.codeIn K cdLOrder "_law_order" = true)
    (kLOrder : PySem.W.keepIn K (.ref fLOrder) = true)
    (aLRenamed : PySem.W.nsIn K mainGlobals "_law_renamed" = some (some (.ref fLRenamed)))
    (lLRenamed : K.lookup fLRenamed = some ⟨ocLRenamed, odLRenamed, .func (PySem.W.fnOf "_law_renamed" "_law_renamed" (defArgs sLRenamed) (defBody sLRenamed) (defScope sLRenamed) .none kVLRenamed dcLRenamed pmLRenamed anLRenamed cdLRenamed ctLRenamed), slLRenamed⟩)
    (cLRenamed : PySem.W.codeIn K cdLRenamed "_law_renamed" = true)
    (kLRenamed : PySem.W.keepIn K (.ref fLRenamed) = true)
    (aLaw : PySem.W.nsIn K mainGlobals "law" = some (some (.ref fLaw)))
    (lLaw : K.lookup fLaw = some ⟨ocLaw, odLaw, .func (PySem.W.fnOf "law" "law" (defArgs sLaw) (defBody sLaw) (defScope sLaw) .none kVLaw dcLaw pmLaw anLaw cdLaw ctLaw), slLaw⟩)
    (cLaw : PySem.W.codeIn K cdLaw "law" = true)
    (kLaw : PySem.W.keepIn K (.ref fLaw) = true)
    (aC : PySem.W.nsIn K mainGlobals "Moves" = some (some (.ref C)))
    (aInit : PySem.W.findIn K (.ref C) "__init__" = some (some (.ref fInit)))
    (iInit : PySem.W.isFn K (.ref fInit) = true)
    (lInit : K.lookup fInit = some ⟨ocInit, odInit, .func (PySem.W.fnOf "__init__" "Moves.__init__" (defArgs sInit) (defBody sInit) (defScope sInit) .none kVInit dcInit pmInit anInit cdInit ctInit), slInit⟩)
    (cInit : PySem.W.codeIn K cdInit "Moves.__init__" = true)
    (kInit : PySem.W.keepIn K (.ref fInit) = true)
    (aOptions : PySem.W.findIn K (.ref C) "options" = some (some (.ref fOptions)))
    (iOptions : PySem.W.isFn K (.ref fOptions) = true)
    (lOptions : K.lookup fOptions = some ⟨ocOptions, odOptions, .func (PySem.W.fnOf "options" "Moves.options" (defArgs sOptions) (defBody sOptions) (defScope sOptions) .none kVOptions dcOptions pmOptions anOptions cdOptions ctOptions), slOptions⟩)
    (cOptions : PySem.W.codeIn K cdOptions "Moves.options" = true)
    (kOptions : PySem.W.keepIn K (.ref fOptions) = true)
    (aTake : PySem.W.findIn K (.ref C) "take" = some (some (.ref fTake)))
    (iTake : PySem.W.isFn K (.ref fTake) = true)
    (lTake : K.lookup fTake = some ⟨ocTake, odTake, .func (PySem.W.fnOf "take" "Moves.take" (defArgs sTake) (defBody sTake) (defScope sTake) .none kVTake dcTake pmTake anTake cdTake ctTake), slTake⟩)
    (cTake : PySem.W.codeIn K cdTake "Moves.take" = true)
    (kTake : PySem.W.keepIn K (.ref fTake) = true)
    (pg : PySem.W.plainGet K C Str.empty = true)
    (hd : PySem.W.hasDictIn K C = true)
    (po : PySem.W.plainOver K C = true)
    (sa : PySem.W.findIn K (.ref C) "__setattr__" = some (some (.builtin "object.__setattr__")))
    (mk : PySem.W.makesIn K C = true)
    (kc : PySem.W.keepIn K (.ref C) = true)
    (nA : PySem.W.findIn K (.ref C) "assignment" = some none)
    (nW : PySem.W.findIn K (.ref C) "waiting" = some none)
    (nL : PySem.W.findIn K (.ref C) "leaving" = some none)
    (nE : PySem.W.findIn K (.ref C) "entering" = some none)
    (mv : PySem.W.nsIn K mainGlobals "MOST_VARIANTS" = some (some (.int 5 tmv)))
    (mb : PySem.W.nsIn K mainGlobals "MOST_BUCKETS" = some (some (.int 20 tmb)))
    (fac : PySem.W.nsIn K mainGlobals "factorial" = some (some (.builtin "math.factorial")))
    (com : PySem.W.nsIn K mainGlobals "comb" = some (some (.builtin "math.comb")))
    (zisinstance : PySem.W.nsIn K mainGlobals "isinstance" = some none)
    (zint : PySem.W.nsIn K mainGlobals "int" = some none)
    (zbool : PySem.W.nsIn K mainGlobals "bool" = some none)
    (ztuple : PySem.W.nsIn K mainGlobals "tuple" = some none)
    (zlist : PySem.W.nsIn K mainGlobals "list" = some none)
    (zlen : PySem.W.nsIn K mainGlobals "len" = some none)
    (zall : PySem.W.nsIn K mainGlobals "all" = some none)
    (zsum : PySem.W.nsIn K mainGlobals "sum" = some none)
    (zrange : PySem.W.nsIn K mainGlobals "range" = some none)
    (zenumerate : PySem.W.nsIn K mainGlobals "enumerate" = some none)
    (zzip : PySem.W.nsIn K mainGlobals "zip" = some none)
    (zsorted : PySem.W.nsIn K mainGlobals "sorted" = some none)
    (zmax : PySem.W.nsIn K mainGlobals "max" = some none)
    (zabs : PySem.W.nsIn K mainGlobals "abs" = some none)
    : ∃ fd : FuncData, (∀ (s : Shared) (v : Value), BindsTo s fd ⟨[v], []⟩ [("_law_script", v)]) ∧ ∀ base : Heap, K.In base → base.Ns mainGlobals mg → FnOk l.prog w K mg base CX0 6 fa fd ["_law_script"] (spLaw K) := by
  have e := hfa.symm.trans (PySem.W.mg_of X G aLaw)
  cases e
  have B : Blt mg := ⟨PySem.W.mg_none_of X G zisinstance, PySem.W.mg_none_of X G zint, PySem.W.mg_none_of X G zbool, PySem.W.mg_none_of X G ztuple, PySem.W.mg_none_of X G zlist, PySem.W.mg_none_of X G zlen, PySem.W.mg_none_of X G zall, PySem.W.mg_none_of X G zsum, PySem.W.mg_none_of X G zrange, PySem.W.mg_none_of X G zenumerate, PySem.W.mg_none_of X G zzip, PySem.W.mg_none_of X G zsorted, PySem.W.mg_none_of X G zmax, PySem.W.mg_none_of X G zabs⟩
  have Z : Cst mg := ⟨⟨_, PySem.W.mg_of X G mv⟩, ⟨_, PySem.W.mg_of X G mb⟩, PySem.W.mg_of X G fac, PySem.W.mg_of X G com⟩
  have T : MCls K C := ⟨⟨pg, hd, po, sa⟩, nA, nW, nL, nE⟩
  have FWhole := fun_mk (st := sWhole) lWhole cWhole kWhole
  have DWhole : DefAt K mg "is_whole" sWhole ["value"] fWhole _ := ⟨FWhole, PySem.W.mg_of X G aWhole, FWhole.binds (ps := ["value"]) fun _ _ _ _ _ _ us hl => match us, hl with | [_], _ => rfl⟩
  have FBetween := fun_mk (st := sBetween) lBetween cBetween kBetween
  have DBetween : DefAt K mg "is_between" sBetween ["value", "low", "high"] fBetween _ := ⟨FBetween, PySem.W.mg_of X G aBetween, FBetween.binds (ps := ["value", "low", "high"]) fun _ _ _ _ _ _ us hl => match us, hl with | [_, _, _], _ => rfl⟩
  have FIsAlloc := fun_mk (st := sIsAlloc) lIsAlloc cIsAlloc kIsAlloc
  have DIsAlloc : DefAt K mg "is_allocation" sIsAlloc ["value", "variants", "buckets"] fIsAlloc _ := ⟨FIsAlloc, PySem.W.mg_of X G aIsAlloc, FIsAlloc.binds (ps := ["value", "variants", "buckets"]) fun _ _ _ _ _ _ us hl => match us, hl with | [_, _, _], _ => rfl⟩
  have FIsAssign := fun_mk (st := sIsAssign) lIsAssign cIsAssign kIsAssign
  have DIsAssign : DefAt K mg "is_assignment" sIsAssign ["value", "variants", "buckets"] fIsAssign _ := ⟨FIsAssign, PySem.W.mg_of X G aIsAssign, FIsAssign.binds (ps := ["value", "variants", "buckets"]) fun _ _ _ _ _ _ us hl => match us, hl with | [_, _, _], _ => rfl⟩
  have FCounts := fun_mk (st := sCounts) lCounts cCounts kCounts
  have DCounts : DefAt K mg "counts_of" sCounts ["assignment", "variants"] fCounts _ := ⟨FCounts, PySem.W.mg_of X G aCounts, FCounts.binds (ps := ["assignment", "variants"]) fun _ _ _ _ _ _ us hl => match us, hl with | [_, _], _ => rfl⟩
  have FInteger := fun_mk (st := sInteger) lInteger cInteger kInteger
  have DInteger : DefAt K mg "is_integer" sInteger ["value"] fInteger _ := ⟨FInteger, PySem.W.mg_of X G aInteger, FInteger.binds (ps := ["value"]) fun _ _ _ _ _ _ us hl => match us, hl with | [_], _ => rfl⟩
  have FChkVar := fun_mk (st := sChkVar) lChkVar cChkVar kChkVar
  have DChkVar : DefAt K mg "check_variants" sChkVar ["variants"] fChkVar _ := ⟨FChkVar, PySem.W.mg_of X G aChkVar, FChkVar.binds (ps := ["variants"]) fun _ _ _ _ _ _ us hl => match us, hl with | [_], _ => rfl⟩
  have FSomeAlloc := fun_mk (st := sSomeAlloc) lSomeAlloc cSomeAlloc kSomeAlloc
  have DSomeAlloc : DefAt K mg "is_some_allocation" sSomeAlloc ["value"] fSomeAlloc _ := ⟨FSomeAlloc, PySem.W.mg_of X G aSomeAlloc, FSomeAlloc.binds (ps := ["value"]) fun _ _ _ _ _ _ us hl => match us, hl with | [_], _ => rfl⟩
  have FChkAlloc := fun_mk (st := sChkAlloc) lChkAlloc cChkAlloc kChkAlloc
  have DChkAlloc : DefAt K mg "check_allocation" sChkAlloc ["value"] fChkAlloc _ := ⟨FChkAlloc, PySem.W.mg_of X G aChkAlloc, FChkAlloc.binds (ps := ["value"]) fun _ _ _ _ _ _ us hl => match us, hl with | [_], _ => rfl⟩
  have FChkAssign := fun_mk (st := sChkAssign) lChkAssign cChkAssign kChkAssign
  have DChkAssign : DefAt K mg "check_assignment" sChkAssign ["allocation", "value", "name"] fChkAssign _ := ⟨FChkAssign, PySem.W.mg_of X G aChkAssign, FChkAssign.binds (ps := ["allocation", "value", "name"]) fun _ _ _ _ _ _ us hl => match us, hl with | [_, _, _], _ => rfl⟩
  have FNMove := fun_mk (st := sNMove) lNMove cNMove kNMove
  have DNMove : DefAt K mg "needless_move" sNMove ["before", "behind", "assignment", "other"] fNMove _ := ⟨FNMove, PySem.W.mg_of X G aNMove, FNMove.binds (ps := ["before", "behind", "assignment", "other"]) fun _ _ _ _ _ _ us hl => match us, hl with | [_, _, _, _], _ => rfl⟩
  have FFirstN := fun_mk (st := sFirstN) lFirstN cFirstN kFirstN
  have DFirstN : DefAt K mg "first_needless" sFirstN ["variants", "assignment", "other"] fFirstN _ := ⟨FFirstN, PySem.W.mg_of X G aFirstN, FFirstN.binds (ps := ["variants", "assignment", "other"]) fun _ _ _ _ _ _ us hl => match us, hl with | [_, _, _], _ => rfl⟩
  have FNeedless := fun_mk (st := sNeedless) lNeedless cNeedless kNeedless
  have DNeedless : DefAt K mg "needless" sNeedless ["variants", "assignment", "other"] fNeedless _ := ⟨FNeedless, PySem.W.mg_of X G aNeedless, FNeedless.binds (ps := ["variants", "assignment", "other"]) fun _ _ _ _ _ _ us hl => match us, hl with | [_, _, _], _ => rfl⟩
  have FMinimal := fun_mk (st := sMinimal) lMinimal cMinimal kMinimal
  have DMinimal : DefAt K mg "is_minimal" sMinimal ["variants", "assignment", "other"] fMinimal _ := ⟨FMinimal, PySem.W.mg_of X G aMinimal, FMinimal.binds (ps := ["variants", "assignment", "other"]) fun _ _ _ _ _ _ us hl => match us, hl with | [_, _, _], _ => rfl⟩
  have FMovesOf := fun_mk (st := sMovesOf) lMovesOf cMovesOf kMovesOf
  have DMovesOf : DefAt K mg "moves_of" sMovesOf ["allocation", "assignment"] fMovesOf _ := ⟨FMovesOf, PySem.W.mg_of X G aMovesOf, FMovesOf.binds (ps := ["allocation", "assignment"]) fun _ _ _ _ _ _ us hl => match us, hl with | [_, _], _ => rfl⟩
  have FCompleted := fun_mk (st := sCompleted) lCompleted cCompleted kCompleted
  have DCompleted : DefAt K mg "completed" sCompleted ["allocation", "assignment", "begun"] fCompleted _ := ⟨FCompleted, PySem.W.mg_of X G aCompleted, FCompleted.binds (ps := ["allocation", "assignment", "begun"]) fun _ _ _ _ _ _ us hl => match us, hl with | [_, _, _], _ => rfl⟩
  have FFirst := fun_mk (st := sFirst) lFirst cFirst kFirst
  have DFirst : DefAt K mg "first_change" sFirst ["allocation", "assignment"] fFirst _ := ⟨FFirst, PySem.W.mg_of X G aFirst, FFirst.binds (ps := ["allocation", "assignment"]) fun _ _ _ _ _ _ us hl => match us, hl with | [_, _], _ => rfl⟩
  have FWays := fun_mk (st := sWays) lWays cWays kWays
  have DWays : DefAt K mg "ways" sWays ["moves"] fWays _ := ⟨FWays, PySem.W.mg_of X G aWays, FWays.binds (ps := ["moves"]) fun _ _ _ _ _ _ us hl => match us, hl with | [_], _ => rfl⟩
  have FCount := fun_mk (st := sCount) lCount cCount kCount
  have DCount : DefAt K mg "count_changes" sCount ["allocation", "assignment"] fCount _ := ⟨FCount, PySem.W.mg_of X G aCount, FCount.binds (ps := ["allocation", "assignment"]) fun _ _ _ _ _ _ us hl => match us, hl with | [_, _], _ => rfl⟩
  have FStream := fun_mk (st := sStream) lStream cStream kStream
  have DStream : DefAt K mg "_law_stream" sStream ["_law_script"] fStream _ := ⟨FStream, PySem.W.mg_of X G aStream, FStream.binds (ps := ["_law_script"]) fun _ _ _ _ _ _ us hl => match us, hl with | [_], _ => rfl⟩
  have FNext := fun_mk (st := sNext) lNext cNext kNext
  have DNext : DefAt K mg "_law_next" sNext ["_law_stream_here", "_law_many"] fNext _ := ⟨FNext, PySem.W.mg_of X G aNext, FNext.binds (ps := ["_law_stream_here", "_law_many"]) fun _ _ _ _ _ _ us hl => match us, hl with | [_, _], _ => rfl⟩
  have FLCounts := fun_mk (st := sLCounts) lLCounts cLCounts kLCounts
  have DLCounts : DefAt K mg "_law_counts" sLCounts ["_law_assignment_here", "_law_variants"] fLCounts _ := ⟨FLCounts, PySem.W.mg_of X G aLCounts, FLCounts.binds (ps := ["_law_assignment_here", "_law_variants"]) fun _ _ _ _ _ _ us hl => match us, hl with | [_, _], _ => rfl⟩
  have FLTransfer := fun_mk (st := sLTransfer) lLTransfer cLTransfer kLTransfer
  have DLTransfer : DefAt K mg "_law_transfer" sLTransfer ["_law_first", "_law_second"] fLTransfer _ := ⟨FLTransfer, PySem.W.mg_of X G aLTransfer, FLTransfer.binds (ps := ["_law_first", "_law_second"]) fun _ _ _ _ _ _ us hl => match us, hl with | [_, _], _ => rfl⟩
  have FLChurn := fun_mk (st := sLChurn) lLChurn cLChurn kLChurn
  have DLChurn : DefAt K mg "_law_churn" sLChurn ["_law_first", "_law_second"] fLChurn _ := ⟨FLChurn, PySem.W.mg_of X G aLChurn, FLChurn.binds (ps := ["_law_first", "_law_second"]) fun _ _ _ _ _ _ us hl => match us, hl with | [_, _], _ => rfl⟩
  have FLAssign := fun_mk (st := sLAssign) lLAssign cLAssign kLAssign
  have DLAssign : DefAt K mg "_law_assignment" sLAssign ["_law_stream_here", "_law_variants", "_law_buckets"] fLAssign _ := ⟨FLAssign, PySem.W.mg_of X G aLAssign, FLAssign.binds (ps := ["_law_stream_here", "_law_variants", "_law_buckets"]) fun _ _ _ _ _ _ us hl => match us, hl with | [_, _, _], _ => rfl⟩
  have FLOrder := fun_mk (st := sLOrder) lLOrder cLOrder kLOrder
  have DLOrder : DefAt K mg "_law_order" sLOrder ["_law_stream_here", "_law_many"] fLOrder _ := ⟨FLOrder, PySem.W.mg_of X G aLOrder, FLOrder.binds (ps := ["_law_stream_here", "_law_many"]) fun _ _ _ _ _ _ us hl => match us, hl with | [_, _], _ => rfl⟩
  have FLRenamed := fun_mk (st := sLRenamed) lLRenamed cLRenamed kLRenamed
  have DLRenamed : DefAt K mg "_law_renamed" sLRenamed ["_law_assignment_here", "_law_buckets", "_law_variants"] fLRenamed _ := ⟨FLRenamed, PySem.W.mg_of X G aLRenamed, FLRenamed.binds (ps := ["_law_assignment_here", "_law_buckets", "_law_variants"]) fun _ _ _ _ _ _ us hl => match us, hl with | [_, _, _], _ => rfl⟩
  have FLaw := fun_mk (st := sLaw) lLaw cLaw kLaw
  have DLaw : DefAt K mg "law" sLaw ["_law_script"] fa _ := ⟨FLaw, PySem.W.mg_of X G aLaw, FLaw.binds (ps := ["_law_script"]) fun _ _ _ _ _ _ us hl => match us, hl with | [_], _ => rfl⟩
  have FInit := fun_mk (st := sInit) lInit cInit kInit
  have bInit := FInit.binds (ps := ["self", "assignment", "waiting", "leaving", "entering"]) fun _ _ _ _ _ _ us hl => match us, hl with | [_, _, _, _, _], _ => rfl
  have FOptions := fun_mk (st := sOptions) lOptions cOptions kOptions
  have bOptions := FOptions.binds (ps := ["self", "bucket"]) fun _ _ _ _ _ _ us hl => match us, hl with | [_, _], _ => rfl
  have FTake := fun_mk (st := sTake) lTake cTake kTake
  have bTake := FTake.binds (ps := ["self", "bucket", "chosen"]) fun _ _ _ _ _ _ us hl => match us, hl with | [_, _, _], _ => rfl
  refine ⟨PySem.W.fnOf "law" "law" (defArgs sLaw) (defBody sLaw) (defScope sLaw) .none kVLaw dcLaw pmLaw anLaw cdLaw ctLaw, fun s v => .of_eq rfl, fun base _ _ => ?_⟩
  have cWhole := DWhole.cal (ok_whole (P := l.prog) (w := w) (base := base) DWhole B)
  have cInteger := DInteger.cal (ok_integer (P := l.prog) (w := w) (base := base) DInteger B)
  have cBetween := DBetween.cal (ok_between DBetween cWhole)
  have cIsAssign := DIsAssign.cal (ok_isassign DIsAssign B cBetween)
  have cIsAlloc := DIsAlloc.cal (ok_isalloc DIsAlloc B cWhole)
  have cChkVar := DChkVar.cal (ok_chkvar DChkVar Z cInteger)
  have cSomeAlloc := DSomeAlloc.cal (ok_somealloc DSomeAlloc B Z cInteger cIsAlloc)
  have cChkAlloc := DChkAlloc.cal (ok_chkalloc DChkAlloc cSomeAlloc)
  have cChkAssign := DChkAssign.cal (ok_chkassign DChkAssign B cIsAssign)
  have cCounts := DCounts.cal (ok_counts (P := l.prog) (w := w) (base := base) DCounts B)
  have cNMove := DNMove.cal (ok_nmove (P := l.prog) (w := w) (base := base) DNMove B)
  have cFirstN := DFirstN.cal (ok_firstn DFirstN cCounts cNMove)
  have cNeedless := DNeedless.cal (ok_needless DNeedless B Z cChkVar cIsAssign cFirstN)
  have cMinimal := DMinimal.cal (ok_minimal DMinimal cNeedless)
  have GI : FnOk l.prog w K mg base CX0 1 fInit _ ["self", "assignment", "waiting", "leaving", "entering"] (spInit K C) := ok_init FInit T B
  have GO : FnOk l.prog w K mg base CX0 1 fOptions _ ["self", "bucket"] (spOptions C) := ok_options FOptions T B
  have GT : FnOk l.prog w K mg base CX0 1 fTake _ ["self", "bucket", "chosen"] (spTake C) := ok_take FTake T
  have cMovesOf := DMovesOf.cal (ok_movesof DMovesOf B cCounts ⟨mk, aInit, iInit, kc⟩ (PySem.W.mg_of X G aC) GI bInit)
  have cCompleted := DCompleted.cal (ok_completed DCompleted B T cMovesOf ⟨aOptions, iOptions, kOptions⟩ GO bOptions ⟨aTake, iTake, kTake⟩ GT bTake)
  have cFirst := DFirst.cal (ok_first DFirst cChkAlloc cChkAssign cCompleted)
  have cWays := DWays.cal (ok_ways (P := l.prog) (w := w) (base := base) DWays B T Z)
  have cCount := DCount.cal (ok_count DCount cChkAlloc cChkAssign cMovesOf cWays)
  have cStream := DStream.cal (ok_stream (P := l.prog) (w := w) (base := base) DStream B)
  have cNext := DNext.cal (ok_next (P := l.prog) (w := w) (base := base) DNext B)
  have cDraw := DLAssign.cal (ok_draw DLAssign B cNext)
  have cOrder := DLOrder.cal (ok_order DLOrder B cNext)
  have cLCounts := DLCounts.cal (ok_lcounts (P := l.prog) (w := w) (base := base) DLCounts B)
  have cLTransfer := DLTransfer.cal (ok_ltransfer (P := l.prog) (w := w) (base := base) DLTransfer B)
  have cLChurn := DLChurn.cal (ok_lchurn (P := l.prog) (w := w) (base := base) DLChurn B)
  have cRenamed := DLRenamed.cal (ok_renamed (P := l.prog) (w := w) (base := base) DLRenamed B)
  exact ok_law DLaw B cStream cNext cDraw cLCounts cFirst cMinimal cLTransfer cLChurn cOrder cRenamed cCount
theorem walk {l : PySem.W.OpenLaw} {q : Program} {loose : List Str} {XP : (Str → Option Value) → Heap → Prop} {YP : World → Heap → Prop} {d : DefRec} {K : Params → PySem.W.Frag} (hn : l.most = some 63) (hdf : d.params.defaults = [])
    (hY : ∀ (w : World) (h : Heap), YP w h → (K w.params).In h)
    (F : ∀ (w : World) (mg : Str → Option Value) (fa : Addr) (h : Heap), (K w.params).In h → h.Ns mainGlobals mg → mg d.name = some (.ref fa) →
      ∃ fd : FuncData, (∀ (s : Shared) (u : Value), BindsTo s fd ⟨[u], []⟩ [("_law_script", u)]) ∧ ∀ base : Heap, (K w.params).In base → base.Ns mainGlobals mg → FnOk l.prog w (K w.params) mg base CX0 6 fa fd ["_law_script"] (spLaw (K w.params))) :
    PySem.W.WalkO q loose XP YP l.row.toRowW d [] (fun f vs => PySem.call f vs) :=
  L2.walk_of (n := 63) (k := 6) (x := "_law_script") (CX := fun _ => CX0) (sp := fun w => spLaw (K w.params)) hn (by decide) hdf ⟨rfl, by decide, by decide⟩ hY F (fun _ _ a ns hl _ hS => ⟨a, ns, rfl, hS, hl, fun _ => rfl⟩) fun _ _ _ _ _ z => z
end K17

open PySem PySem.W PyProof.Rows in
set_option maxRecDepth 100000 in
set_option maxHeartbeats 0 in
theorem PySem.Challenge.cw_leastmoved_k17_whole_back_and_renamed_holds : PySem.Challenge.rw_leastmoved_k17_whole_back_and_renamed.Holds := by
  w_on; o_law; k_head; (case hw => w_witness2)
  k_fill
  refine K17.walk (l := PySem.Challenge.rw_leastmoved_k17_whole_back_and_renamed) rfl rfl (fun w h Y => PySem.W.kIn_of Y) ?F
  case F =>
    intro w mg fa h KX G hmg
    refine' K17.all_mk KX G hmg ?aWhole ?lWhole ?cWhole ?kWhole ?aBetween ?lBetween ?cBetween ?kBetween ?aIsAlloc ?lIsAlloc ?cIsAlloc ?kIsAlloc ?aIsAssign ?lIsAssign ?cIsAssign ?kIsAssign ?aCounts ?lCounts ?cCounts ?kCounts ?aInteger ?lInteger ?cInteger ?kInteger ?aChkVar ?lChkVar ?cChkVar ?kChkVar ?aSomeAlloc ?lSomeAlloc ?cSomeAlloc ?kSomeAlloc ?aChkAlloc ?lChkAlloc ?cChkAlloc ?kChkAlloc ?aChkAssign ?lChkAssign ?cChkAssign ?kChkAssign ?aNMove ?lNMove ?cNMove ?kNMove ?aFirstN ?lFirstN ?cFirstN ?kFirstN ?aNeedless ?lNeedless ?cNeedless ?kNeedless ?aMinimal ?lMinimal ?cMinimal ?kMinimal ?aMovesOf ?lMovesOf ?cMovesOf ?kMovesOf ?aCompleted ?lCompleted ?cCompleted ?kCompleted ?aFirst ?lFirst ?cFirst ?kFirst ?aWays ?lWays ?cWays ?kWays ?aCount ?lCount ?cCount ?kCount ?aStream ?lStream ?cStream ?kStream ?aNext ?lNext ?cNext ?kNext ?aLCounts ?lLCounts ?cLCounts ?kLCounts ?aLTransfer ?lLTransfer ?cLTransfer ?kLTransfer ?aLChurn ?lLChurn ?cLChurn ?kLChurn ?aLAssign ?lLAssign ?cLAssign ?kLAssign ?aLOrder ?lLOrder ?cLOrder ?kLOrder ?aLRenamed ?lLRenamed ?cLRenamed ?kLRenamed ?aLaw ?lLaw ?cLaw ?kLaw ?aC ?aInit ?iInit ?lInit ?cInit ?kInit ?aOptions ?iOptions ?lOptions ?cOptions ?kOptions ?aTake ?iTake ?lTake ?cTake ?kTake ?pg ?hd ?po ?sa ?mk ?kc ?nA ?nW ?nL ?nE ?mv ?mb ?fac ?com ?zisinstance ?zint ?zbool ?ztuple ?zlist ?zlen ?zall ?zsum ?zrange ?zenumerate ?zzip ?zsorted ?zmax ?zabs
    (case aWhole => k_is)
    (case lWhole => k_is)
    (case cWhole => k_is)
    (case kWhole => k_is)
    (case aBetween => k_is)
    (case lBetween => k_is)
    (case cBetween => k_is)
    (case kBetween => k_is)
    (case aIsAlloc => k_is)
    (case lIsAlloc => k_is)
    (case cIsAlloc => k_is)
    (case kIsAlloc => k_is)
    (case aIsAssign => k_is)
    (case lIsAssign => k_is)
    (case cIsAssign => k_is)
    (case kIsAssign => k_is)
    (case aCounts => k_is)
    (case lCounts => k_is)
    (case cCounts => k_is)
    (case kCounts => k_is)
    (case aInteger => k_is)
    (case lInteger => k_is)
    (case cInteger => k_is)
    (case kInteger => k_is)
    (case aChkVar => k_is)
    (case lChkVar => k_is)
    (case cChkVar => k_is)
    (case kChkVar => k_is)
    (case aSomeAlloc => k_is)
    (case lSomeAlloc => k_is)
    (case cSomeAlloc => k_is)
    (case kSomeAlloc => k_is)
    (case aChkAlloc => k_is)
    (case lChkAlloc => k_is)
    (case cChkAlloc => k_is)
    (case kChkAlloc => k_is)
    (case aChkAssign => k_is)
    (case lChkAssign => k_is)
    (case cChkAssign => k_is)
    (case kChkAssign => k_is)
    (case aNMove => k_is)
    (case lNMove => k_is)
    (case cNMove => k_is)
    (case kNMove => k_is)
    (case aFirstN => k_is)
    (case lFirstN => k_is)
    (case cFirstN => k_is)
    (case kFirstN => k_is)
    (case aNeedless => k_is)
    (case lNeedless => k_is)
    (case cNeedless => k_is)
    (case kNeedless => k_is)
    (case aMinimal => k_is)
    (case lMinimal => k_is)
    (case cMinimal => k_is)
    (case kMinimal => k_is)
    (case aMovesOf => k_is)
    (case lMovesOf => k_is)
    (case cMovesOf => k_is)
    (case kMovesOf => k_is)
    (case aCompleted => k_is)
    (case lCompleted => k_is)
    (case cCompleted => k_is)
    (case kCompleted => k_is)
    (case aFirst => k_is)
    (case lFirst => k_is)
    (case cFirst => k_is)
    (case kFirst => k_is)
    (case aWays => k_is)
    (case lWays => k_is)
    (case cWays => k_is)
    (case kWays => k_is)
    (case aCount => k_is)
    (case lCount => k_is)
    (case cCount => k_is)
    (case kCount => k_is)
    (case aStream => k_is)
    (case lStream => k_is)
    (case cStream => k_is)
    (case kStream => k_is)
    (case aNext => k_is)
    (case lNext => k_is)
    (case cNext => k_is)
    (case kNext => k_is)
    (case aLCounts => k_is)
    (case lLCounts => k_is)
    (case cLCounts => k_is)
    (case kLCounts => k_is)
    (case aLTransfer => k_is)
    (case lLTransfer => k_is)
    (case cLTransfer => k_is)
    (case kLTransfer => k_is)
    (case aLChurn => k_is)
    (case lLChurn => k_is)
    (case cLChurn => k_is)
    (case kLChurn => k_is)
    (case aLAssign => k_is)
    (case lLAssign => k_is)
    (case cLAssign => k_is)
    (case kLAssign => k_is)
    (case aLOrder => k_is)
    (case lLOrder => k_is)
    (case cLOrder => k_is)
    (case kLOrder => k_is)
    (case aLRenamed => k_is)
    (case lLRenamed => k_is)
    (case cLRenamed => k_is)
    (case kLRenamed => k_is)
    (case aLaw => k_is)
    (case lLaw => k_is)
    (case cLaw => k_is)
    (case kLaw => k_is)
    (case aC => k_is)
    (case aInit => k_is)
    (case iInit => k_is)
    (case lInit => k_is)
    (case cInit => k_is)
    (case kInit => k_is)
    (case aOptions => k_is)
    (case iOptions => k_is)
    (case lOptions => k_is)
    (case cOptions => k_is)
    (case kOptions => k_is)
    (case aTake => k_is)
    (case iTake => k_is)
    (case lTake => k_is)
    (case cTake => k_is)
    (case kTake => k_is)
    (case pg => k_is)
    (case hd => k_is)
    (case po => k_is)
    (case sa => k_is)
    (case mk => k_is)
    (case kc => k_is)
    (case nA => k_is)
    (case nW => k_is)
    (case nL => k_is)
    (case nE => k_is)
    (case mv => k_is)
    (case mb => k_is)
    (case fac => k_is)
    (case com => k_is)
    (case zisinstance => k_is)
    (case zint => k_is)
    (case zbool => k_is)
    (case ztuple => k_is)
    (case zlist => k_is)
    (case zlen => k_is)
    (case zall => k_is)
    (case zsum => k_is)
    (case zrange => k_is)
    (case zenumerate => k_is)
    (case zzip => k_is)
    (case zsorted => k_is)
    (case zmax => k_is)
    (case zabs => k_is)
#print axioms PySem.Challenge.cw_leastmoved_k17_whole_back_and_renamed_holds
