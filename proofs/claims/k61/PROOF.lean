import PyProof.Rows.All
import Wide.All
import OpenK.AllK
import Wide.FinOn
import KE.LtSeq
import KE.KSortAsk
import HandS.ForMost
import HandS.Set
import HandS.Strs
import HandS.SetFor
import HandS.SortOrd
import HandS.SortRule
import HandS.SortInts
import HandS.NamedTupSort
import HandS.Defaults
import HandS.IsInst
import HandS.Zip
import HandS.TupAny
import HandS.Conv
import HandS.Deep
import HandS.Walk
import PySem.Challenge.RW_etaparts_k61_whole_orbits_of_rests
set_option Elab.async false
set_option linter.all false
set_option maxRecDepth 100000
set_option maxHeartbeats 16000000

/-! ## K61Math -/
/-! K61Math: the plain law. No program in sight. -/
namespace K61

/-! ### sorted lists without repeats -/
def ins (a : Int) : List Int → List Int
  | [] => [a]
  | b :: r => if a < b then a :: b :: r else if a = b then b :: r else b :: ins a r
def norm : List Int → List Int
  | [] => []
  | a :: r => ins a (norm r)
theorem mem_ins {a x : Int} : ∀ {l : List Int}, x ∈ ins a l ↔ x = a ∨ x ∈ l
  | [] => by simp [ins]
  | b :: r => by
    unfold ins
    split
    · simp
    · split
      · next h => subst h; simp
      · rw [List.mem_cons, mem_ins, List.mem_cons]
        constructor
        · rintro (h | h | h)
          · exact .inr (.inl h)
          · exact .inl h
          · exact .inr (.inr h)
        · rintro (h | h | h)
          · exact .inr (.inl h)
          · exact .inl h
          · exact .inr (.inr h)
theorem mem_norm {x : Int} : ∀ {l : List Int}, x ∈ norm l ↔ x ∈ l
  | [] => by simp [norm]
  | a :: r => by
    unfold norm
    rw [mem_ins, mem_norm, List.mem_cons]
theorem ins_sorted {a : Int} : ∀ {l : List Int}, l.Pairwise (· < ·) → (ins a l).Pairwise (· < ·)
  | [], _ => List.pairwise_singleton _ _
  | b :: r, h => by
    obtain ⟨h1, h2⟩ := List.pairwise_cons.mp h
    unfold ins
    split
    · next hab =>
      refine List.pairwise_cons.mpr ⟨fun y hy => ?_, h⟩
      rcases List.mem_cons.mp hy with e | hy
      · omega
      · have := h1 y hy
        omega
    · split
      · exact h
      · refine List.pairwise_cons.mpr ⟨fun y hy => ?_, ins_sorted h2⟩
        rcases mem_ins.mp hy with e | hy
        · omega
        · exact h1 y hy
theorem norm_sorted : ∀ (l : List Int), (norm l).Pairwise (· < ·)
  | [] => List.Pairwise.nil
  | _ :: r => ins_sorted (norm_sorted r)
theorem sorted_uniq : ∀ {l m : List Int}, l.Pairwise (· < ·) → m.Pairwise (· < ·) → (∀ x, x ∈ l ↔ x ∈ m) → l = m
  | [], [], _, _, _ => rfl
  | [], y :: m, _, _, h => absurd ((h y).mpr List.mem_cons_self) (by simp)
  | x :: l, [], _, _, h => absurd ((h x).mp List.mem_cons_self) (by simp)
  | x :: l, y :: m, hl, hm, h => by
    obtain ⟨a1, a2⟩ := List.pairwise_cons.mp hl
    obtain ⟨b1, b2⟩ := List.pairwise_cons.mp hm
    have hx := (h x).mp List.mem_cons_self
    have hy := (h y).mpr List.mem_cons_self
    have e : x = y := by
      rcases List.mem_cons.mp hx with e | hx
      · exact e
      · rcases List.mem_cons.mp hy with e | hy
        · exact e.symm
        · have := b1 x hx
          have := a1 y hy
          omega
    subst e
    refine congrArg (x :: ·) (sorted_uniq a2 b2 fun z => ?_)
    constructor
    · intro hz
      rcases List.mem_cons.mp ((h z).mp (List.mem_cons_of_mem _ hz)) with e | hz'
      · have := a1 z hz
        omega
      · exact hz'
    · intro hz
      rcases List.mem_cons.mp ((h z).mpr (List.mem_cons_of_mem _ hz)) with e | hz'
      · have := b1 z hz
        omega
      · exact hz'
theorem norm_eq {l m : List Int} (hl : l.Pairwise (· < ·)) (h : ∀ x, x ∈ l ↔ x ∈ m) : l = norm m :=
  sorted_uniq hl (norm_sorted m) fun x => (h x).trans mem_norm.symm
theorem norm_congr {l m : List Int} (h : ∀ x, x ∈ l ↔ x ∈ m) : norm l = norm m :=
  sorted_uniq (norm_sorted l) (norm_sorted m) fun x => mem_norm.trans ((h x).trans mem_norm.symm)
theorem norm_self {l : List Int} (hl : l.Pairwise (· < ·)) : norm l = l := (norm_eq hl fun _ => Iff.rfl).symm
/-- rising without repeats, from a rearrangement of a list without repeats -/
theorem le_lt {l : List Int} (h : l.Pairwise (· ≤ ·)) (n : l.Nodup) : l.Pairwise (· < ·) := by
  have h2 : l.Pairwise (fun x y => x ≤ y ∧ x ≠ y) := List.pairwise_and_iff.mpr ⟨h, n⟩
  exact h2.imp fun {x y} ⟨a, b⟩ => by omega
theorem norm_of_perm {l m : List Int} (p : l.Perm m) (h : l.Pairwise (· ≤ ·)) (n : m.Nodup) : l = norm m :=
  norm_eq (le_lt h (p.nodup_iff.mpr n)) fun _ => p.mem_iff
/-- one rising rearrangement only -/
theorem perm_uniq : ∀ {l m : List Int}, l.Pairwise (· ≤ ·) → m.Pairwise (· ≤ ·) → l.Perm m → l = m
  | [], m, _, _, p => (List.Perm.nil_eq p)
  | x :: l, [], _, _, p => absurd p.length_eq (by simp)
  | x :: l, y :: m, hl, hm, p => by
    obtain ⟨a1, a2⟩ := List.pairwise_cons.mp hl
    obtain ⟨b1, b2⟩ := List.pairwise_cons.mp hm
    have e : x = y := by
      have hx := p.mem_iff.mp (List.mem_cons_self (a := x) (l := l))
      have hy := p.mem_iff.mpr (List.mem_cons_self (a := y) (l := m))
      rcases List.mem_cons.mp hx with e | hx
      · exact e
      · rcases List.mem_cons.mp hy with e | hy
        · exact e.symm
        · have := b1 x hx
          have := a1 y hy
          omega
    subst e
    rw [perm_uniq a2 b2 (List.Perm.cons_inv p)]

/-! ### squares -/
def okx (m x : Nat) : Bool := Nat.gcd x (24 * m) == 1
def sqv (m x : Nat) : Int := ((x * x % (24 * m) : Nat) : Int)
def sqRaw (m : Nat) : List Int := ((List.range (12 * m)).filter (okx m)).map (sqv m)
def sq (m : Nat) : List Int := norm (sqRaw m)
/-- what is asked of the squares by 24 m, as one Bool -/
def sqOk (m : Nat) (l : List Int) : Bool :=
  l.all (fun s => s % 24 == 1 && decide (1 ≤ s) && decide (s < 24 * (m : Int))) && l.contains 1 && l.all (fun s => l.all fun r => l.contains (s * r % (24 * (m : Int)))) && l.all (fun s => l.any fun r => s * r % (24 * (m : Int)) == 1) && decide (l.length ≤ 40)
theorem sq_all : ((List.range 31).all fun m => m == 0 || sqOk m (sq m)) = true := by decide +kernel
theorem sq_ok {m : Nat} (h1 : 1 ≤ m) (h2 : m ≤ 30) : sqOk m (sq m) = true := by
  have h := List.all_eq_true.mp sq_all m (List.mem_range.mpr (by omega))
  have h0 : (m == 0) = false := beq_eq_false_iff_ne.mpr (by omega)
  rw [h0, Bool.false_or] at h
  exact h
structure Sq (m : Nat) (l : List Int) : Prop where
  one : ∀ s ∈ l, s % 24 = 1
  pos : ∀ s ∈ l, 1 ≤ s
  lt : ∀ s ∈ l, s < 24 * (m : Int)
  has : (1 : Int) ∈ l
  mul : ∀ s ∈ l, ∀ r ∈ l, s * r % (24 * (m : Int)) ∈ l
  inv : ∀ s ∈ l, ∃ r ∈ l, s * r % (24 * (m : Int)) = 1
  len : l.length ≤ 40
theorem sq_is {m : Nat} (h1 : 1 ≤ m) (h2 : m ≤ 30) : Sq m (sq m) := by
  have h := sq_ok h1 h2
  unfold sqOk at h
  simp only [Bool.and_eq_true, List.all_eq_true, List.any_eq_true, beq_iff_eq, decide_eq_true_eq, List.contains_iff_mem] at h
  obtain ⟨⟨⟨⟨a, b⟩, c⟩, d⟩, e⟩ := h
  exact ⟨fun s hs => (a s hs).1.1, fun s hs => (a s hs).1.2, fun s hs => (a s hs).2, b, c, d, e⟩

/-! ### orbits -/
def orv (S : Int) (m : Nat) (t s : Int) : Int := (t * s + S * ((s - 1) / 24)) % (m : Int)
def orbRaw (S : Int) (m : Nat) (t : Int) : List Int := (sq m).map (orv S m t)
def orb (S : Int) (m : Nat) (t : Int) : List Int := norm (orbRaw S m t)
theorem mem_orb {S : Int} {m : Nat} {t x : Int} : x ∈ orb S m t ↔ ∃ s ∈ sq m, orv S m t s = x := by
  unfold orb orbRaw
  rw [mem_norm, List.mem_map]
theorem orb_bd {S : Int} {m : Nat} {t x : Int} (h1 : 1 ≤ m) (h : x ∈ orb S m t) : 0 ≤ x ∧ x < m := by
  obtain ⟨s, _, e⟩ := mem_orb.mp h
  subst e
  unfold orv
  exact ⟨Int.emod_nonneg _ (by omega), Int.emod_lt_of_pos _ (by omega)⟩
theorem orb_sorted (S : Int) (m : Nat) (t : Int) : (orb S m t).Pairwise (· < ·) := norm_sorted _
theorem orb_self {S : Int} {m : Nat} {t : Int} (h1 : 1 ≤ m) (h2 : m ≤ 30) (t0 : 0 ≤ t) (t1 : t < m) : t ∈ orb S m t := by
  refine mem_orb.mpr ⟨1, (sq_is h1 h2).has, ?_⟩
  unfold orv
  rw [show ((1 : Int) - 1) / 24 = 0 from rfl, Int.mul_zero, Int.add_zero, Int.mul_one]
  exact Int.emod_eq_of_lt t0 t1
/-- the way from one to another, made one -/
theorem orv_orv {S : Int} {m : Nat} {t s r : Int} (_hm : 1 ≤ m) (hs : s % 24 = 1) (hr : r % 24 = 1) : orv S m (orv S m t s) r = orv S m t (s * r % (24 * (m : Int))) := by
  obtain ⟨u, rfl⟩ : ∃ u, s = 24 * u + 1 := ⟨s / 24, by omega⟩
  obtain ⟨v, rfl⟩ : ∃ v, r = 24 * v + 1 := ⟨r / 24, by omega⟩
  generalize hq : (24 * u + 1) * (24 * v + 1) / (24 * (m : Int)) = q
  have e1 : (24 * u + 1) * (24 * v + 1) % (24 * (m : Int)) = 24 * (24 * (u * v) + u + v - m * q) + 1 := by
    have h := Int.emod_def ((24 * u + 1) * (24 * v + 1)) (24 * (m : Int))
    rw [hq] at h
    rw [h]
    grind
  have f : ∀ z : Int, (24 * z + 1 - 1) / 24 = z := fun z => by omega
  unfold orv
  rw [e1, f u, f v, f]
  have e2 : ((t * (24 * u + 1) + S * u) % (m : Int) * (24 * v + 1) + S * v) % (m : Int) = ((t * (24 * u + 1) + S * u) * (24 * v + 1) + S * v) % (m : Int) := by
    rw [Int.add_emod, Int.mul_emod, Int.emod_emod, ← Int.mul_emod, ← Int.add_emod]
  rw [e2]
  have e3 : (t * (24 * u + 1) + S * u) * (24 * v + 1) + S * v = (t * (24 * (24 * (u * v) + u + v - m * q) + 1) + S * (24 * (u * v) + u + v - m * q)) + (m : Int) * (24 * t * q + S * q) := by grind
  rw [e3, Int.add_mul_emod_self_left]
theorem orb_sub {S : Int} {m : Nat} {t r x : Int} (h1 : 1 ≤ m) (h2 : m ≤ 30) (hr : r ∈ orb S m t) (hx : x ∈ orb S m r) : x ∈ orb S m t := by
  have Q := sq_is h1 h2
  obtain ⟨s, hs, rfl⟩ := mem_orb.mp hr
  obtain ⟨s', hs', rfl⟩ := mem_orb.mp hx
  exact mem_orb.mpr ⟨_, Q.mul s hs s' hs', (orv_orv h1 (Q.one s hs) (Q.one s' hs')).symm⟩
theorem orb_back {S : Int} {m : Nat} {t r : Int} (h1 : 1 ≤ m) (h2 : m ≤ 30) (t0 : 0 ≤ t) (t1 : t < m) (hr : r ∈ orb S m t) : t ∈ orb S m r := by
  have Q := sq_is h1 h2
  obtain ⟨s, hs, rfl⟩ := mem_orb.mp hr
  obtain ⟨s', hs', e⟩ := Q.inv s hs
  refine mem_orb.mpr ⟨s', hs', ?_⟩
  rw [orv_orv h1 (Q.one s hs) (Q.one s' hs'), e]
  unfold orv
  rw [show ((1 : Int) - 1) / 24 = 0 from rfl, Int.mul_zero, Int.add_zero, Int.mul_one]
  exact Int.emod_eq_of_lt t0 t1
/-- the same from each of its rests -/
theorem orb_same {S : Int} {m : Nat} {t r : Int} (h1 : 1 ≤ m) (h2 : m ≤ 30) (t0 : 0 ≤ t) (t1 : t < m) (hr : r ∈ orb S m t) : orb S m r = orb S m t :=
  sorted_uniq (orb_sorted S m r) (orb_sorted S m t) fun _ => ⟨fun h => orb_sub h1 h2 hr h, fun h => orb_sub h1 h2 (orb_back h1 h2 t0 t1 hr) h⟩

/-! ### all orbits -/
def fnd (S : Int) (m : Nat) : Nat → List (List Int)
  | 0 => []
  | i + 1 => if (i : Int) ∈ (fnd S m i).flatten then fnd S m i else fnd S m i ++ [orb S m i]
theorem fnd_orb {S : Int} {m : Nat} : ∀ {i : Nat} {o : List Int}, o ∈ fnd S m i → ∃ j : Nat, j < i ∧ o = orb S m j
  | 0, o, h => absurd h (by simp [fnd])
  | i + 1, o, h => by
    unfold fnd at h
    split at h
    · obtain ⟨j, hj, e⟩ := fnd_orb h
      exact ⟨j, by omega, e⟩
    · rcases List.mem_append.mp h with h | h
      · obtain ⟨j, hj, e⟩ := fnd_orb h
        exact ⟨j, by omega, e⟩
      · exact ⟨i, by omega, List.mem_singleton.mp h⟩
/-- the law's own test says the same -/
theorem fnd_test {S : Int} {m i : Nat} (h1 : 1 ≤ m) (h2 : m ≤ 30) (hi : i < m) : orb S m i ∈ fnd S m i ↔ (i : Int) ∈ (fnd S m i).flatten := by
  constructor
  · intro h
    exact List.mem_flatten.mpr ⟨_, h, orb_self h1 h2 (by omega) (by omega)⟩
  · intro h
    obtain ⟨o, ho, hio⟩ := List.mem_flatten.mp h
    obtain ⟨j, hj, rfl⟩ := fnd_orb ho
    rw [orb_same h1 h2 (by omega) (by omega) hio]
    exact ho
theorem fnd_succ_law {S : Int} {m i : Nat} (h1 : 1 ≤ m) (h2 : m ≤ 30) (hi : i < m) : fnd S m (i + 1) = if orb S m i ∈ fnd S m i then fnd S m i else fnd S m i ++ [orb S m i] := by
  show (if (i : Int) ∈ (fnd S m i).flatten then fnd S m i else fnd S m i ++ [orb S m i]) = _
  by_cases h : (i : Int) ∈ (fnd S m i).flatten
  · rw [if_pos h, if_pos ((fnd_test h1 h2 hi).mpr h)]
  · rw [if_neg h, if_neg fun z => h ((fnd_test h1 h2 hi).mp z)]
/-- only the rest of the sum counts -/
theorem orv_mod (S : Int) (m : Nat) (t s : Int) : orv (S % m) m t s = orv S m t s := by
  unfold orv
  rw [Int.add_emod, Int.mul_emod (S % m), Int.emod_emod, ← Int.mul_emod, ← Int.add_emod]
theorem orb_mod (S : Int) (m : Nat) (t : Int) : orb (S % m) m t = orb S m t := by
  unfold orb orbRaw
  rw [List.map_congr_left fun s _ => orv_mod S m t s]
theorem fnd_mod (S : Int) (m : Nat) : ∀ i, fnd (S % m) m i = fnd S m i
  | 0 => rfl
  | i + 1 => by
    unfold fnd
    rw [fnd_mod S m i, orb_mod]
/-! the order of lists -/
def lexLt : List Int → List Int → Bool
  | [], [] => false
  | [], _ :: _ => true
  | _ :: _, [] => false
  | x :: xs, y :: ys => if x = y then lexLt xs ys else decide (x < y)
/-- said once for the search: squares given, orbits told, all found -/
def orbW (l : List Int) (S : Int) (m : Nat) (t : Int) : List Int := norm (l.map (orv S m t))
def fndW (l : List Int) (S : Int) (m : Nat) : Nat → List (List Int)
  | 0 => []
  | i + 1 => (fun (f : List (List Int)) => if f.flatten.contains (i : Int) then f else f ++ [orbW l S m i]) (fndW l S m i)
theorem fndW_eq (S : Int) (m : Nat) : ∀ i, fndW (sq m) S m i = fnd S m i
  | 0 => rfl
  | i + 1 => by
    unfold fndW fnd
    simp only [fndW_eq S m i]
    by_cases h : (i : Int) ∈ (fnd S m i).flatten
    · rw [if_pos h, if_pos (List.contains_iff_mem.mpr h)]
    · rw [if_neg h, if_neg fun z => h (List.contains_iff_mem.mp z)]
      rfl
def pairOk : List (List Int) → Bool
  | [] => true
  | x :: r => r.all (fun y => lexLt x y) && pairOk r
def fndOk (f : List (List Int)) (m : Nat) : Bool := pairOk f && f.flatten.isPerm ((List.range m).map fun (i : Nat) => (i : Int)) && decide (f ≠ []) && decide (f.length ≤ 8)
theorem fnd_all : ((List.range 9).all fun m => m == 0 || (List.range m).all fun S => fndOk (fndW (sq m) (S : Int) m m) m) = true := by decide +kernel
theorem fnd_ok {S : Int} {m : Nat} (h1 : 1 ≤ m) (h2 : m ≤ 8) : fndOk (fnd S m m) m = true := by
  have h := List.all_eq_true.mp fnd_all m (List.mem_range.mpr (by omega))
  have h0 : (m == 0) = false := beq_eq_false_iff_ne.mpr (by omega)
  rw [h0, Bool.false_or] at h
  have a := Int.emod_nonneg S (b := (m : Int)) (by omega)
  have b := Int.emod_lt_of_pos S (b := (m : Int)) (by omega)
  have h3 := List.all_eq_true.mp h (S % m).toNat (List.mem_range.mpr (by omega))
  rw [fndW_eq, show (((S % m).toNat : Nat) : Int) = S % m by omega, fnd_mod] at h3
  exact h3
theorem pair_of : ∀ {f : List (List Int)}, pairOk f = true → f.Pairwise fun x y => lexLt x y = true
  | [], _ => List.Pairwise.nil
  | x :: r, h => by
    unfold pairOk at h
    rw [Bool.and_eq_true, List.all_eq_true] at h
    exact List.pairwise_cons.mpr ⟨fun y hy => h.1 y hy, pair_of h.2⟩
structure Fnd (f : List (List Int)) (m : Nat) : Prop where
  srt : f.Pairwise fun x y => lexLt x y = true
  prm : f.flatten.Perm ((List.range m).map fun (i : Nat) => (i : Int))
  ne : f ≠ []
  len : f.length ≤ 8
theorem fnd_is (S : Int) {m : Nat} (h1 : 1 ≤ m) (h2 : m ≤ 8) : Fnd (fnd S m m) m := by
  have h := fnd_ok (S := S) h1 h2
  unfold fndOk at h
  simp only [Bool.and_eq_true, decide_eq_true_eq, List.isPerm_iff] at h
  exact ⟨pair_of h.1.1.1, h.1.1.2, h.1.2, h.2⟩
end K61

/-! ## K61Rules -/
/-! K61Rules: four rules that the layer lacks: d.update(e) of two dicts, set(xs) of a list of ints, sorted(xs) of a list of lists of ints, f(k = v, ..). -/
namespace K61
open PySem PySem.Spec PyProof.Rows L2

/-! ### d.update(e) -/
def rDUpdate : V → List V → Hp → VK → Prop := fun x vs H Q => ∃ (a b : Addr) (kvs more : List (L2.Key × V)), x = .ref a ∧ vs = [.ref b] ∧ a ≠ b ∧ H a = some (.dK kvs) ∧ H b = some (.dK more) ∧ kvs.length + more.length ≤ sizeLine ∧ Q .non (upd H a (.dK (mergeK kvs more)))
theorem mt_dupdate {X : Cx} : MtM X "dict.update" rDUpdate := by
  intro pins s σ H x vs v us Q I rx rv h
  obtain ⟨a, b, kvs, more, rfl, rfl, hab, hA, hB, hz, q⟩ := h
  cases rx
  obtain ⟨u, rfl, ru⟩ := rv.one
  cases ru
  obtain ⟨z1, l1, ks, rk, hd⟩ := (show ObjOk X.prog X.w H s.heap a (.dK kvs) from I.hok a _ hA)
  obtain ⟨z2, l2, ms, rm, hd2⟩ := (show ObjOk X.prog X.w H s.heap b (.dK more) from I.hok b _ hB)
  have e1 : kvs.length = ks.length := Paired.length rk
  have e2 : more.length = ms.length := Paired.length rm
  refine call_meetsIn PySem.F.slot_dict_update hd.typeIs PySem.F.entry_dict_update (PySem.F.args_dict_update_2 _ _) (meets_dict_update (mixKind X.prog X.w) a b hab l2)
    ⟨ks, ms, hd, hd2, by rw [← e1, ← e2]; exact hz, fun h' hd' _ hs => ?_⟩
  have hlen : (mergeK kvs more).length ≤ sizeLine := Nat.le_trans (length_mergeK more kvs) hz
  have hob : ∃ u, h'.get? a = some u := by
    obtain ⟨o, _, _, e, _⟩ := hd'
    exact ⟨o, e⟩
  exact ⟨.non, upd H a (.dK (mergeK kvs more)), I.write (x := a) (e := a) (t' := s.toks) (by rw [hA]; trivial) (.inl rfl) (fun c u hc z => (hs.2 c hc).trans z) hob
    (show ObjOk X.prog X.w _ _ _ (.dK (mergeK kvs more)) from ⟨hlen, l1, merged ks ms, KV.merge rm rk, hd'⟩), rfl, q⟩

/-! ### set(xs), xs a list of ints -/
section
variable {P : Program} {w : World} {A : Around} {E : Value → Shared → Prop} {s : Shared}
/-- a new set, nothing in it -/
abbrev set0 (w : World) : Obj := { cls := .type "set", dict := none, data := .set #[] 0 (.fresh 0 0 (!w.params.followText "set-order")) }
/-- set.__init__ fills a new set from a list of ints -/
theorem fill_set {S l : Addr} {items : Array Value} (ns : List Int) {R : PySem.Fin → Shared → Prop} (hh : A.handled = none) (hS : s.heap.get? S = some (set0 w)) (hl : s.heap.IsList l items) (hi : IntsAre items.toList ns) (hb : ns.length + 1 < scanBound)
    (h : ∀ s' c, (∀ b o, b ≠ S → s.heap.get? b = some o → s'.heap.get? b = some o) → s'.gens = s.gens → s'.drawn = s.drawn → s'.os = s.os → SetR w s'.heap S (fun j => decide (j ∈ ns)) c → R (.done (.ret .none)) s') :
    wpAny (model P w) A (Builtin.«set.__init__» ⟨[.ref S, .ref l], []⟩) R E s := by
  obtain ⟨⟨oc, od, dt, sl⟩, ho, rfl, k, rfl⟩ := id hl
  have a1 := F.sub_list_set
  have a2 := F.sub_list_frozenset
  have a3 : (Value.type "list" == Value.type "dict") = false := by decide
  have tS : s.TypeIs (.ref S) "set" := ⟨_, hS, rfl⟩
  unfold Builtin.«set.__init__» noKeywords Builtin.Frozenset.updateFrom
  generalize e : pyIter = it
  wp_walk
  subst e
  refine wpAny_pyIter_list hl (wpAny_bind (wpAny_runValue ?_))
  have iS : S ≠ s.heap.objs.size := Nat.ne_of_lt (Heap.lt_size hS)
  have il : l ≠ s.heap.objs.size := Nat.ne_of_lt (Heap.lt_size ho)
  have lS : S ≠ l := fun z => by
    rw [z, ho] at hS
    exact absurd (Value.type.inj (congrArg Obj.cls (Option.some.inj hS))) (by decide)
  have n1 : items.size = ns.length := by
    rw [← Array.length_toList]
    exact IntsAre.length hi
  have at_ : ∀ (i : Nat) (v : Value), items[i]? = some v → ∃ k t, ns[i]? = some k ∧ v = .int k t := fun i v hv => by
    have hlt : i < ns.length := n1 ▸ (Array.getElem?_eq_some_iff.mp hv).1
    obtain ⟨t, e⟩ := IntsAre.int_at hi i v ((Array.getElem?_toList ..).trans hv)
    exact ⟨ns[i], t, List.getElem?_eq_getElem hlt, by rw [e, List.getD_eq_getElem?_getD, List.getElem?_eq_getElem hlt] <;> rfl⟩
  have old : ∀ b o, s.heap.get? b = some o → (s.heap.push { cls := .type "list_iterator", data := .fields #[.ref l, .int 0 0] }).get? b = some o := fun b o z => Heap.get?_push_of_some _ z
  have W := (Walks.list (prog := P) (w := w) (A := A.in1) hh s.heap.objs.size l il items).toS
  refine set_update_ints W S (by simp [iS, lS]) ns n1 hb at_ items.size 0 _ (Nat.sub_zero _) (Nat.zero_le _) ⟨⟨_, Heap.get?_push_size _ rfl, rfl, rfl⟩, hl.push _⟩ ⟨0, Nat.le_refl 0, setR_new_at (old S _ hS)⟩ fun s' c hm _ hR => ?_
  refine wpAny_pure (wpAny_pure (h s' c (fun b o nb z => hm.heap b o ?_ (old b o z)) hm.gens hm.drawn hm.os hR))
  have ib : b ≠ s.heap.objs.size := Nat.ne_of_lt (Heap.lt_size z)
  simp [nb, ib]
/-- set(l) -/
theorem call_set_listI {l : Addr} {items : Array Value} (ns : List Int) {Q : Value → Shared → Prop} (hh : A.handled = none) (hl : s.heap.IsList l items) (hi : IntsAre items.toList ns) (hb : ns.length + 1 < scanBound)
    (h : ∀ (h' : Heap) (tk c : Nat), SetR w h' s.heap.objs.size (fun j => decide (j ∈ ns)) c → (∀ b o, s.heap.get? b = some o → h'.get? b = some o) → Q (.ref s.heap.objs.size) { s with heap := h', toks := tk }) :
    wpAny (model P w) A (call (.type "set") [.ref l]) Q E s := by
  have fc := F.called_set
  obtain ⟨c0, tl0, m1⟩ := fc.mro
  have m2 := fc.made
  have m3 := fc.sub
  have m4 := fc.notType
  have m5 := fc.canCreate
  have m6 := F.typeCall_set_1 (.ref l)
  refine wpAny_call (codeAny_of_tree (wpAny_pure ⟨Code.quiet_builtin _ (by decide +kernel), codeAny_builtin F.entry_type_call ?_⟩))
  rw [Around.under_plain (weight_type_call_type "set" [.ref l] []) rfl]
  repeat (any_goals (first | assumption | wp_step))
  have back : ∀ s', (∃ (h' : Heap) (tk c : Nat), s' = { s with heap := h', toks := tk } ∧ SetR w h' s.heap.objs.size (fun j => decide (j ∈ ns)) c ∧ ∀ b o, s.heap.get? b = some o → h'.get? b = some o) → Q (.ref s.heap.objs.size) s' := fun s' z => by
    obtain ⟨h', tk, c, rfl, r1, r2⟩ := z
    exact h h' tk c r1 r2
  have hnew : (s.heap.push (set0 w)).get? s.heap.objs.size = some (set0 w) := Heap.get?_push_size _ rfl
  have tS : Shared.TypeIs { s with heap := s.heap.push (set0 w) } (.ref s.heap.objs.size) "set" := ⟨_, hnew, rfl⟩
  refine codeAny_mono (code_set_led1 (.ref l) (E := E) (Q₁ := fun o t => o = .ref s.heap.objs.size ∧ t = { s with heap := s.heap.push (set0 w) }) ⟨rfl, rfl⟩) fun r t hr => ?_
  match r, hr with
  | .error _, hr => exact hr
  | .ok (.ret _), ⟨e1, e2⟩ =>
    subst e1 e2
    have i1 := fc.init.lookup
    have i2 := fc.init.bind (.ref s.heap.objs.size)
    repeat (any_goals (first | assumption | wp_step))
    refine codeAny_mono (codeAny_call_builtin (R := wants (fun v s' => v = .none ∧ Q (.ref s.heap.objs.size) s') E) fc.init.plain F.entry_set_init (check_set_init_1 tS ?_)) fun r2 t2 z2 => ?_
    · refine fill_set ns (by simp [hh]) hnew (hl.push _) hi hb fun s' c k g d o hR => ⟨rfl, back s' ⟨s'.heap, s'.toks, c, ?_, hR, fun b u z => k b u (Nat.ne_of_lt (Heap.lt_size z)) (Heap.get?_push_of_some _ z)⟩⟩
      cases s'
      cases g
      cases d
      cases o
      rfl
    · match r2, z2 with
      | .error _, z2 => exact z2
      | .ok (.ret _), ⟨e, z2⟩ =>
        subst e
        repeat (any_goals (first | assumption | wp_step))
end
/-- set(xs): a new set of the list's ints; n says how many -/
def rSetL (K : PySem.W.Frag) (w : World) : List V → Hp → VK → Prop := fun vs H Q => ∃ (a : Addr) (ns : List Int), vs = [V.ref a] ∧ SqL K H a (ns.map V.int) ∧ ns.length ≤ 4000 ∧
  ∀ (p : Addr) (n : Nat), H p = none → (∀ D : List Int, (∀ k ∈ ns, k ∈ D) → n ≤ D.length) → Q (.ref p) (upd H p (SetO w p (fun j => decide (j ∈ ns)) n))
/-- a list without repeats is no longer than one that holds it -/
theorem few : ∀ (l D : List Int), l.Nodup → (∀ x ∈ l, x ∈ D) → l.length ≤ D.length
  | [], D, _, _ => Nat.zero_le D.length
  | x :: l, D, hn, hs => by
    obtain ⟨nx, nl⟩ := List.nodup_cons.mp hn
    have p := List.perm_cons_erase (hs x List.mem_cons_self)
    have z := few l (D.erase x) nl fun y hy => (List.mem_cons.mp (p.mem_iff.mp (hs y (List.mem_cons_of_mem x hy)))).resolve_left fun e => nx (e ▸ hy)
    rw [p.length_eq, List.length_cons, List.length_cons]
    omega
theorem setR_len {w : World} {h : Heap} {a : Addr} {ns : List Int} {n : Nat} (R : SetR w h a (fun j => decide (j ∈ ns)) n) (D : List Int) (hD : ∀ k ∈ ns, k ∈ D) : n ≤ D.length := by
  obtain ⟨o, es, ep, t, ho, hex, hdt, g, nd, hm, hb, hf, hn, hr, hl⟩ := R
  have e1 : n = (es.toList.map keyOf).length := by
    rw [List.length_map, Array.length_toList]
    exact hn.symm
  rw [e1]
  exact few _ D nd fun k hk => hD k (of_decide_eq_true ((hm k).mpr hk))
theorem cr_setL {X : Cx} (hc : X.calm = true) : CallR X (.type "set") (rSetL X.K X.w) := by
  intro pins s σ H vs us Q I r h
  obtain ⟨a, ns, rfl, hs, hlen, q⟩ := h
  obtain ⟨its, rv, hl, hz⟩ := I.list hs
  rw [Vals.ref1 r]
  have hi := rv.ints
  refine call_set_listI ns (I.ok.hd hc) hl.isList (by simpa using hi) (by unfold scanBound; omega) fun h' tk c R k => ?_
  exact ⟨.ref s.heap.objs.size, upd H s.heap.objs.size (SetO X.w s.heap.objs.size (fun j => decide (j ∈ ns)) c), I.laid (t' := tk) k (Nat.le_refl _) (setO_new R), rfl, q _ c (I.hok.fresh (Nat.le_refl _)) (setR_len R)⟩

/-! ### sorted(xs), xs a list of lists of ints -/
/-- v is a list of these ints -/
def IsLI (h : Heap) (v : Value) (ns : List Int) : Prop := ∃ (a : Addr) (items : Array Value), v = .ref a ∧ h.IsList a items ∧ IntsAre items.toList ns
theorem IsLI.keeps {h h' : Heap} {v : Value} {ns : List Int} (x : IsLI h v ns) (k : ∀ b o, v = .ref b → h.get? b = some o → h'.get? b = some o) : IsLI h' v ns := by
  obtain ⟨a, items, e, ⟨o, ho, r⟩, i⟩ := x
  exact ⟨a, items, e, ⟨o, k _ _ e ho, r⟩, i⟩
theorem IsLI.type {M : Model} {h : Heap} {v : Value} {ns : List Int} (x : IsLI h v ns) : PySem.W.Looks M h (typeOf v) (.type "list") := by
  obtain ⟨a, items, rfl, ⟨⟨cls, dd, dt, sl⟩, ho, hc, r⟩, i⟩ := x
  simp only at hc
  subst hc
  exact (PySem.W.Looks.ld ho).andThen .now
/-- the first place that differs -/
theorem firstLt_lex : ∀ (ns ms : List Int), SeqAt.firstLt (fun j => decide (ns.getD j 0 = ms.getD j 0)) (fun j => decide (ns.getD j 0 < ms.getD j 0)) (decide (ns.length < ms.length)) (List.range (min ns.length ms.length)) = HT.lexLt ns ms
  | [], [] => rfl
  | [], _ :: _ => by simp [SeqAt.firstLt, HT.lexLt]
  | _ :: _, [] => by simp [SeqAt.firstLt, HT.lexLt]
  | x :: xs, y :: ys => by
    have hsh : ∀ (e r e' r' : Nat → Bool) (fin : Bool) (l : List Nat), (∀ j, e (j + 1) = e' j) → (∀ j, r (j + 1) = r' j) → SeqAt.firstLt e r fin (l.map Nat.succ) = SeqAt.firstLt e' r' fin l := by
      intro e r e' r' fin l he hr
      induction l with
      | nil => rfl
      | cons j t ih =>
        show (if e (j + 1) = true then SeqAt.firstLt e r fin (t.map Nat.succ) else r (j + 1)) = (if e' j = true then SeqAt.firstLt e' r' fin t else r' j)
        rw [he, hr, ih]
    have ih := firstLt_lex xs ys
    rw [List.length_cons, List.length_cons, show min (xs.length + 1) (ys.length + 1) = min xs.length ys.length + 1 by omega, List.range_succ_eq_map]
    show (if decide (x = y) = true then SeqAt.firstLt _ _ _ ((List.range (min xs.length ys.length)).map Nat.succ) else decide (x < y)) = HT.lexLt (x :: xs) (y :: ys)
    rw [HT.lexLt_cons]
    by_cases e : x = y
    · rw [if_pos (decide_eq_true e), if_pos e]
      rw [hsh _ _ (fun j => decide (xs.getD j 0 = ys.getD j 0)) (fun j => decide (xs.getD j 0 < ys.getD j 0)) _ _ (fun _ => rfl) (fun _ => rfl)]
      rw [show decide (xs.length + 1 < ys.length + 1) = decide (xs.length < ys.length) from decide_eq_decide.mpr (by omega)]
      exact ih
    · rw [if_neg (by simpa using e), if_neg e]
section
variable {prog : Program} {w : World} {A : Around} {E : Value → Shared → Prop} {s : Shared}
theorem lt_li {v u : Value} {ns ms : List Int} {Q : Bool → Shared → Prop} (hu : A.units < cLine) (hv : IsLI s.heap v ns) (hw : IsLI s.heap u ms) (h : Q (HT.lexLt ns ms) s) : wpAny (model prog w) A (keyLt' oneType' v u) Q E s := by
  obtain ⟨a, items, rfl, la, ia⟩ := hv
  obtain ⟨b, items2, rfl, lb, ib⟩ := hw
  have n1 : items.size = ns.length := by
    have q := IntsAre.length ia
    rw [Array.length_toList] at q
    exact q
  have n2 : items2.size = ms.length := by
    have q := IntsAre.length ib
    rw [Array.length_toList] at q
    exact q
  have at1 : ∀ j (h1 : j < items.size), ∃ t, items[j] = .int (ns.getD j 0) t := fun j h1 =>
    PyProof.Rows.IntsAre.int_at ia j items[j] (by rw [Array.getElem?_toList, Array.getElem?_eq_getElem h1])
  have at2 : ∀ j (h1 : j < items2.size), ∃ t, items2[j] = .int (ms.getD j 0) t := fun j h1 =>
    PyProof.Rows.IntsAre.int_at ib j items2[j] (by rw [Array.getElem?_toList, Array.getElem?_eq_getElem h1])
  rw [keyLt'_oneType, oneLt'_eq]
  simp only [if_true]
  refine wpAny_bind (wpAny_cRoomFor hu ?_)
  have hta : s.TypeIs (.ref a) "list" := by
    obtain ⟨o, ho, hc, _⟩ := la
    exact ⟨o, ho, hc⟩
  refine wpAny_bind (wpAny_callSpecialIfBound?_slot (T := "list") hta PySem.F.slot_list_lt (SeqAt.call_list_lt (e := fun j => decide (ns.getD j 0 = ms.getD j 0)) (r := fun j => decide (ns.getD j 0 < ms.getD j 0)) la lb (fun j j1 j2 => ?_) (fun j j1 j2 _ => ?_) ?_))
  · obtain ⟨t1, e1⟩ := at1 j j1
    obtain ⟨t2, e2⟩ := at2 j j2
    rw [e1, e2]
    exact SeqAt.EqAt.int_int _ t1 _ t2
  · obtain ⟨t1, e1⟩ := at1 j j1
    obtain ⟨t2, e2⟩ := at2 j j2
    rw [e1, e2]
    exact fun p w' E' Q' hq => HT.rcLt_int _ _ _ t1 _ t2 p w' E' Q' hq
  · rw [n1, n2, firstLt_lex]
    exact wpAny_truthy_bool h
theorem li_sortable {a : Addr} {vs : List Value} {k : Value → List Int} (h2 : 2 ≤ vs.length) (hu : A.units < cLine) (hv : ∀ v ∈ vs, IsLI s.heap v (k v)) (ha : ∀ v ∈ vs, v ≠ .ref a) :
    SrtO.SortableO prog w A s a vs fun v u => HT.lexLt (k v) (k u) := by
  intro h' keep
  have hv' : ∀ v ∈ vs, IsLI h' v (k v) := fun v hm => (hv v hm).keeps fun b o e g => keep b o (fun z => ha v hm (by rw [e, z])) g
  refine ⟨oneType', fun Q E hq => ?_, fun p q hp hq => ?_⟩
  · exact PySem.W.kas_kind (s := { s with heap := h' }) (T := .type "list") h2 (fun v hm => (hv' v hm).type) (by first | rfl | decide) (by first | rfl | simp) hq
  · exact lt_li (s := { s with heap := h' }) (Q := fun r s' => s' = { s with heap := h' } ∧ r = HT.lexLt (k p.1) (k q.1)) (E := fun _ _ => False) hu (hv' p.1 hp) (hv' q.1 hq) ⟨rfl, rfl⟩
end
/-- sorted(xs), xs a list of tracked lists of ints (k says which) -/
def rSortLL (K : PySem.W.Frag) : List V → Hp → VK → Prop := fun vs H Q => ∃ (a : Addr) (ts : List Addr) (k : Addr → List Int), vs = [V.ref a] ∧ SqL K H a (ts.map V.ref) ∧ (∀ t ∈ ts, H t = some (.lst ((k t).map V.int))) ∧
  ∀ (ts' : List Addr) (p : Addr), ts'.Perm ts → ts'.Pairwise (fun p q => HT.lexLt (k q) (k p) = false) → H p = none → Q (.ref p) (upd H p (.lst (ts'.map V.ref)))
theorem cr_sortLL {X : Cx} (hu : X.A.units + 64 < cLine) : CallR X (.builtin "sorted") (rSortLL X.K) := by
  intro pins s σ H vs us Q I r h
  obtain ⟨a, ts, k, rfl, hs, hk, q⟩ := h
  obtain ⟨its, rv, hl, hz⟩ := I.list hs
  rw [Vals.ref1 r]
  have ei := nts_of rv
  have hzs : its.length ≤ sizeLine := by rw [← rv.length]; exact hz
  have hv : ∀ u ∈ its, IsLI s.heap u (k (adO u)) := fun u hm => by
    rw [ei] at hm
    obtain ⟨t, ht, rfl⟩ := List.mem_map.mp hm
    obtain ⟨_, its2, n, rv2, e⟩ := (show ObjOk X.prog X.w H s.heap t (.lst ((k t).map V.int)) from I.hok t _ (hk t ht))
    exact ⟨t, its2.toArray, rfl, ⟨_, e, rfl, n, rfl⟩, (show IntsAre its2.toArray.toList (k t) by simpa using rv2.ints)⟩
  refine SrtO.sorted_ord (NtL.swo_lexL fun u => k (adO u)) hl.isList hzs (fun h2 h₁ a' ha' kk => ?_) fun out h1 h2 => ?_
  · refine li_sortable (s := { s with heap := h₁ }) h2 (by show X.A.units + 1 + 1 < cLine; omega) (fun v hm => (hv v hm).keeps fun b o _ e => (kk b o e).2) fun v hm e => ?_
    obtain ⟨b, items, e2, ⟨o, ho, _⟩, _⟩ := hv v hm
    rw [e] at e2
    cases e2
    exact (kk _ o ho).1 rfl
  · have eo : out = (out.map adO).map Value.ref := ref_map fun u hm => by
      have hm' : u ∈ its := h2.perm.mem_iff.mp hm
      rw [ei] at hm'
      obtain ⟨t, _, e⟩ := List.mem_map.mp hm'
      exact ⟨t, e.symm⟩
    have hp : (out.map adO).Perm ts := by
      have p1 := h2.perm.map adO
      rw [ei, ad_map] at p1
      exact p1
    have hsr : (out.map adO).Pairwise (fun p q => HT.lexLt (k q) (k p) = false) := List.pairwise_map.mpr (h1.imp fun {x y} z => z)
    have hlen : ((out.map adO).map V.ref).length ≤ sizeLine := by
      rw [List.length_map, hp.length_eq]
      rw [List.length_map] at hz
      exact hz
    have rvo : Vals ((out.map adO).map V.ref) out := by
      have z := of_nts (out.map adO)
      rw [← eo] at z
      exact z
    obtain ⟨ep, he'⟩ := PyProof.Rows.sortedAll_at s.heap its out.toArray
    exact ⟨.ref _, upd H (s.heap.objs.size + 1) (.lst ((out.map adO).map V.ref)), I.laid (t' := s.toks) (fun _ _ => PyProof.Rows.sortedAll_old) (Nat.le_succ _) ⟨hlen, out, ep, rvo, he'⟩, rfl, q _ _ hp hsr (I.hok.fresh (Nat.le_succ _))⟩

/-! ### f(k = v, ..) -/
section
variable {X : Cx} {CX : CXT} {k : Nat} {f : Addr} {fd : FuncData} {ps ks : List Str} {sp : Sp} {E : XK} {x : Str} {p pos : Pos} {kws : List Keyword} {tk : TA} {g : List Value → List Value → List Value} {gV : List V → List V → List V}
theorem pe_callN0 (F : FnOk X.prog X.w X.K X.mg X.base CX k f fd ps sp) (hr : Room k X.A) (hg : Gl X x) (hm : X.mg x = some (.ref f)) (hk : PySem.W.keepIn X.K (.ref f) = true) (hb : KBn X.K fd ps 0 ks g gV) (hx : Passes CX X E) (hkw : PK X kws tk)
    (hall : (backToKw pos (keywordEach kws X.env)).all (·.1.isSome) = true := by rfl) (hks : (backToKw pos (keywordEach kws X.env)).filterMap (·.1) = ks := by rfl) (hdb : (x == ("__debug__" : Str)) = false := by decide)
    (hpl : ((backTo pos (starEach [] X.env)).any (·.1) || (backToKw pos (keywordEach kws X.env)).any (·.1.isNone)) = false := by rfl) :
    PE X (.Call (.Name x p) [] kws pos) (tCallN 0 ks.length sp gV E tNil tk) := by
  refine ⟨fun pins s σ H Q I h => ?_⟩
  refine wpAny_Call_Name_kw (ld_glob I hg hm ?_ hdb)
  refine PySem.W.callWith_KW0 (h₀ := X.base) I.ok.mod.kin hk hall ?_ hpl
  refine thn (hkw.run pos pins s σ H _ I h) fun ws s2 ⟨zs, H2, I2, rz, l1, l2, q2⟩ => ⟨I2.kIn, ?_⟩
  rw [hks]
  exact run_fnN (us := []) (vs := []) F hr hb hx I2 .nil rz rfl l2 q2
end
end K61

/-! ## K61Base -/
namespace K61
open PySem PySem.Spec PyProof.Rows L2

/-! ### the text by places -/
def topS (i : Nat) : Stmt := PySem.Challenge.pw_etaparts_k61_whole_orbits_of_rests.main.body.getD i (.Pass ⟨0, 0, 0, 0⟩)
abbrev sIsInt : Stmt := topS 6
abbrev sIsCount : Stmt := topS 7
abbrev sGcd : Stmt := topS 9
abbrev sPair : Stmt := topS 15
abbrev sIsProd : Stmt := topS 16
abbrev sWantProd : Stmt := topS 17
abbrev sStepSum : Stmt := topS 19
abbrev sSqBy : Stmt := topS 22
abbrev sOrbitOf : Stmt := topS 23
abbrev sOrbitsOf : Stmt := topS 24
abbrev sWantStep : Stmt := topS 25
abbrev sWantSec : Stmt := topS 26
abbrev sSqOf : Stmt := topS 27
abbrev sOrbit : Stmt := topS 28
abbrev sOrbits : Stmt := topS 29
abbrev sLPot : Stmt := topS 31
abbrev sLDraw : Stmt := topS 32
abbrev sLPick : Stmt := topS 33
abbrev sLGcd : Stmt := topS 34
abbrev sLProd : Stmt := topS 35
abbrev sLSum : Stmt := topS 36
abbrev sLSq : Stmt := topS 37
abbrev sLOrbit : Stmt := topS 38
abbrev sLRight : Stmt := topS 39
abbrev sLaw : Stmt := topS 40

/-! ### what the top has left -/
structure Bl (mg : Str → Option Value) : Prop where
  isinstance : mg "isinstance" = none
  int : mg "int" = none
  bool : mg "bool" = none
  str : mg "str" = none
  tuple : mg "tuple" = none
  list : mg "list" = none
  set : mg "set" = none
  dict : mg "dict" = none
  len : mg "len" = none
  all : mg "all" = none
  abs : mg "abs" = none
  sum : mg "sum" = none
  max : mg "max" = none
  sorted : mg "sorted" = none
  range : mg "range" = none
  zip : mg "zip" = none
  divmod : mg "divmod" = none
structure Cn (mg : Str → Option Value) : Prop where
  word : ∃ u, mg "WORD" = some u ∧ RelV (.str "product") u
  steps : ∃ u, mg "MOST_STEPS" = some u ∧ RelV (.int 12) u
  step : ∃ u, mg "MOST_STEP_products" = some u ∧ RelV (.int 60) u
  power : ∃ u, mg "MOST_POWER" = some u ∧ RelV (.int 60) u
  orbits : ∃ u, mg "MOST_STEP_orbits" = some u ∧ RelV (.int 30) u

/-! ### heaps -/
theorem same_upd {H : Hp} {p : Addr} {o : HO} (h : H p = none) : Same H (upd H p o) := fun b x e => by
  rw [upd_ne (ne_of_none e h)]
  exact e
theorem same_updT {H0 H : Hp} {p : Addr} {o : HO} (s : Same H0 H) (h : H0 p = none) : Same H0 (upd H p o) := fun b x e => by
  rw [upd_ne (ne_of_none e h)]
  exact s _ _ e
/-- all but p is as it was -/
def Sb (p : Addr) (H H' : Hp) : Prop := ∀ b o, b ≠ p → H b = some o → H' b = some o
theorem Sb.refl (p : Addr) (H : Hp) : Sb p H H := fun _ _ _ h => h
theorem Sb.of {p : Addr} {H H' : Hp} (s : Same H H') : Sb p H H' := fun b o _ h => s b o h
theorem Sb.trans {p : Addr} {H H1 H2 : Hp} (a : Sb p H H1) (b : Sb p H1 H2) : Sb p H H2 := fun c o n h => b c o n (a c o n h)
theorem small {n : Nat} (h : n ≤ 4000) : n < sizeLine := Nat.lt_of_le_of_lt h (by decide)
theorem smallL {n : Nat} (h : n ≤ 4000) : n ≤ sizeLine := Nat.le_of_lt (small h)
theorem at0 {x : V} {xs : List V} : atI (x :: xs) 0 = some x := atI_nat (j := 0) rfl
theorem at1 {x y : V} {xs : List V} : atI (x :: y :: xs) 1 = some y := atI_nat (j := 1) rfl

/-! ### products -/
/-- at a: the product with these steps and powers -/
def PrAt (H : Hp) (a : Addr) (ps : List (Int × Int)) : Prop := ∃ (t : Addr) (as : List Addr), H a = some (.tup [.str "product", .ref t]) ∧ H t = some (.tup (as.map V.ref)) ∧ as.length = ps.length ∧
  ∀ (i : Nat) (x : Addr) (p : Int × Int), as[i]? = some x → ps[i]? = some p → H x = some (.tup [.int p.1, .int p.2])
theorem PrAt.same {H H' : Hp} {a : Addr} {ps : List (Int × Int)} (h : PrAt H a ps) (s : Same H H') : PrAt H' a ps := by
  obtain ⟨t, as, h1, h2, h3, h4⟩ := h
  exact ⟨t, as, s _ _ h1, s _ _ h2, h3, fun i x p e1 e2 => s _ _ (h4 i x p e1 e2)⟩
theorem PrAt.sb {H H' : Hp} {q a : Addr} {ps : List (Int × Int)} (h : PrAt H a ps) (s : Sb q H H') (z : List V) (hq : H q = some (.lst z)) : PrAt H' a ps := by
  obtain ⟨t, as, h1, h2, h3, h4⟩ := h
  have k : ∀ b xs, H b = some (.tup xs) → H' b = some (.tup xs) := fun b xs e => s b _ (ne_of e hq (by intro w; cases w)) e
  exact ⟨t, as, k _ _ h1, k _ _ h2, h3, fun i x p e1 e2 => k _ _ (h4 i x p e1 e2)⟩
structure Good (ps : List (Int × Int)) : Prop where
  len : ps.length ≤ 12
  one : ∀ p ∈ ps, 1 ≤ p.1 ∧ p.1 ≤ 60 ∧ p.2 ≠ 0 ∧ -60 ≤ p.2 ∧ p.2 ≤ 60
  rise : ps.Pairwise fun p q => p.1 < q.1
/-- the sum of step times power -/
def ssum (ps : List (Int × Int)) : Int := (ps.map fun p => p.1 * p.2).sum

/-! ### promises -/
def spInt : Sp := fun vs H Q _ => ∃ i : Int, vs = [.int i] ∧ Q (.bl true) H
def spCount : Sp := fun vs H Q _ => ∃ i : Int, vs = [.int i] ∧ 0 ≤ i ∧ Q (.bl true) H
def spGcd : Sp := fun vs H Q _ => ∃ a b : Nat, vs = [.int (a : Int), .int (b : Int)] ∧ Q (.int ((Nat.gcd a b : Nat) : Int)) H
def spPair : Sp := fun vs H Q _ => ∃ (t : Addr) (s p : Int), vs = [.ref t] ∧ H t = some (.tup [.int s, .int p]) ∧ 1 ≤ s ∧ s ≤ 60 ∧ p ≠ 0 ∧ -60 ≤ p ∧ p ≤ 60 ∧ ∀ H', Same H H' → Q (.bl true) H'
def spIsProd : Sp := fun vs H Q _ => ∃ (a : Addr) (ps : List (Int × Int)), vs = [.ref a] ∧ PrAt H a ps ∧ Good ps ∧ ∀ H', Same H H' → Q (.bl true) H'
def spWantProd : Sp := fun vs H Q _ => ∃ (a : Addr) (ps : List (Int × Int)), vs = [.ref a] ∧ PrAt H a ps ∧ Good ps ∧ ∀ H', Same H H' → Q (.ref a) H'
def spSum : Sp := fun vs H Q _ => ∃ (a : Addr) (ps : List (Int × Int)), vs = [.ref a] ∧ PrAt H a ps ∧ Good ps ∧ ∀ H', Same H H' → Q (.int (ssum ps)) H'
/-- a new list of ints -/
def NewL (H : Hp) (L : List Int) (Q : VK) : Prop := ∀ (H' : Hp) (p : Addr), Same H H' → H p = none → H' p = some (.lst (L.map V.int)) → Q (.ref p) H'
def spSq : Sp := fun vs H Q _ => ∃ m : Nat, vs = [.int (m : Int)] ∧ 1 ≤ m ∧ m ≤ 30 ∧ NewL H (sq m) Q
def spOrbit : Sp := fun vs H Q _ => ∃ (a : Addr) (ps : List (Int × Int)) (m t : Nat), vs = [.ref a, .int (m : Int), .int (t : Int)] ∧ PrAt H a ps ∧ Good ps ∧ 1 ≤ m ∧ m ≤ 30 ∧ t < m ∧ NewL H (orb (ssum ps) m t) Q
def spStep : Sp := fun vs H Q _ => ∃ m : Nat, vs = [.int (m : Int)] ∧ 1 ≤ m ∧ m ≤ 30 ∧ Q (.int (m : Int)) H
def spSection : Sp := fun vs H Q _ => ∃ (a : Addr) (ps : List (Int × Int)) (m t : Nat), vs = [.ref a, .int (m : Int), .int (t : Int)] ∧ PrAt H a ps ∧ Good ps ∧ 1 ≤ m ∧ m ≤ 30 ∧ t < m ∧ ∀ H', Same H H' → Q .non H'
/-- at p: a list of lists, these -/
def LLAt (H0 H : Hp) (as : List Addr) (L : List (List Int)) : Prop := as.length = L.length ∧ ∀ (i : Nat) (x : Addr) (l : List Int), as[i]? = some x → L[i]? = some l → H0 x = none ∧ H x = some (.lst (l.map V.int))
def spOrbits : Sp := fun vs H Q _ => ∃ (a : Addr) (ps : List (Int × Int)) (m : Nat), vs = [.ref a, .int (m : Int)] ∧ PrAt H a ps ∧ Good ps ∧ 1 ≤ m ∧ m ≤ 8 ∧
  ∀ (H' : Hp) (p : Addr) (as : List Addr), Same H H' → H p = none → H' p = some (.lst (as.map V.ref)) → as.Nodup → p ∉ as → LLAt H H' as (fnd (ssum ps) m m) → Q (.ref p) H'
end K61

/-! ## K61A -/
namespace K61
open PySem PySem.Spec PyProof.Rows L2
section
variable {P : Program} {w : World} {K : PySem.W.Frag} {mg : Str → Option Value} {base : Heap}

/-! ### is_integer, is_count -/
theorem scIsInt : FnScope ["value"] ["value"] (defScope sIsInt) := ⟨rfl, rfl, rfl, by decide +kernel, rfl, by decide +kernel, by decide +kernel⟩
theorem ok_isint {f : Addr} {fd : FuncData} (F : Fun K "is_integer" "is_integer" sIsInt f fd) (T : Bl mg) : FnOk P w K mg base CX0 1 f fd ["value"] spInt := by
  refine F.ok scIsInt (fun vs H Q E h => ?_) (fun cdv A outer s H vs Q E hr h => ?_)
  · obtain ⟨i, rfl, _⟩ := h
    rfl
  · obtain ⟨i, rfl, q⟩ := h
    refine ⟨_, pss_one (ps_ret (pe_and
      (pe_callB call_isi (by rfl) T.isinstance boot_isinstance (pa_cons (pv 0) (pa_cons (pe_bltn (v := .ty "int") (by rfl) T.int boot_int rfl) pa_nil)))
      (pe_one (pe_not (pe_callB call_isi (by rfl) T.isinstance boot_isinstance (pa_cons (pv 0) (pa_cons (pe_bltn (v := .ty "bool") (by rfl) T.bool boot_bool rfl) pa_nil))))))), ?_⟩
    refine ⟨.int i, rfl, .int i, .ty "int", .type "int", .type "int", true, rfl, .ty _, .base (.int i), kit_ty (by decide +kernel), true, rfl, iteT ?_⟩
    exact ⟨.int i, rfl, .int i, .ty "bool", .type "int", .type "bool", false, rfl, .ty _, .base (.int i), kit_ty (by decide +kernel), false, rfl, q⟩
theorem scIsCount : FnScope ["value"] ["value"] (defScope sIsCount) := ⟨rfl, rfl, rfl, by decide +kernel, rfl, by decide +kernel, by decide +kernel⟩
theorem ok_iscount {f g : Addr} {fd gd : FuncData} (F : Fun K "is_count" "is_count" sIsCount f fd) (FI : Fun K "is_integer" "is_integer" sIsInt g gd) (bI : Binds K gd ["value"] []) (mI : mg "is_integer" = some (.ref g)) (T : Bl mg) : FnOk P w K mg base CX0 2 f fd ["value"] spCount := by
  have GI : FnOk P w K mg base CX0 1 g gd ["value"] spInt := ok_isint FI T
  refine F.ok scIsCount (fun vs H Q E h => ?_) (fun cdv A outer s H vs Q E hr h => ?_)
  · obtain ⟨i, rfl, _⟩ := h
    rfl
  · obtain ⟨i, rfl, hi, q⟩ := h
    refine ⟨_, pss_one (ps_ret (pe_and (pe_call GI hr (by rfl) mI FI.kp bI .nil pass0 (pa_cons (pv 0) pa_nil)) (pe_one (pe_cmpR op_ge (pv 0) pe_int (nomark _))))), ?_⟩
    refine ⟨.int i, rfl, i, rfl, true, rfl, iteT ⟨.int i, rfl, i, 0, rfl, rfl, ?_⟩⟩
    show Q (.bl (decide (0 ≤ i))) H
    rw [decide_eq_true hi]
    exact q

/-! ### the greatest common divisor -/
theorem scGcd : FnScope ["first", "second", "near", "far"] ["first", "second"] (defScope sGcd) := ⟨rfl, rfl, rfl, by decide +kernel, rfl, by decide +kernel, by decide +kernel⟩
theorem abs_nat (a : Nat) : (if (a : Int) < 0 then -(a : Int) else (a : Int)) = (a : Int) := if_neg (by omega)
theorem ok_gcd {f : Addr} {fd : FuncData} (F : Fun K "greatest_common" "greatest_common" sGcd f fd) (T : Bl mg) : FnOk P w K mg base CX0 1 f fd ["first", "second"] spGcd := by
  refine F.ok scGcd (fun vs H Q E h => ?_) (fun cdv A outer s H vs Q E hr h => ?_)
  · obtain ⟨a, b, rfl, _⟩ := h
    rfl
  · obtain ⟨a, b, rfl, q⟩ := h
    refine ⟨_, pss_cons (ps_par (i := 2) (j := 3) rfl scGcd.nd rfl rfl (by decide) rfl rfl (pa_cons (pe_callB call_abs (by rfl) T.abs boot_abs (pa_cons (pv 0) pa_nil)) (pa_cons (pe_callB call_abs (by rfl) T.abs boot_abs (pa_cons (pv 1) pa_nil)) pa_nil)) (by rfl))
      (pss_cons (ps_while PassesOwn.never (pt_cmpR op_ne (pv 3) pe_int (nomark _)) (pss_one (ps_par (i := 2) (j := 3) rfl scGcd.nd rfl rfl (by decide) rfl rfl (pa_cons (pv 3) (pa_cons (pe_op op_mod (pv 2) (pv 3)) pa_nil)) (by rfl))))
      (pss_one (ps_ret (pv 2)))), ?_⟩
    refine ⟨_, rfl, _, rfl, _, rfl, _, rfl, _, _, rfl, ?_⟩
    refine ⟨fun m σ H' => H' = H ∧ ∃ x : Nat, σ = [some (.int (a : Int)), some (.int (b : Int)), some (.int (x : Int)), some (.int (m : Int))] ∧ Nat.gcd x m = Nat.gcd a b, ⟨b, rfl, a, ?_, rfl⟩, fun m σ H' hW => ?_⟩
    · show [some (V.int (a : Int)), some (V.int (b : Int)), some (V.int (if (a : Int) < 0 then -(a : Int) else (a : Int))), some (V.int (if (b : Int) < 0 then -(b : Int) else (b : Int)))] = _
      rw [abs_nat, abs_nat]
    · obtain ⟨rfl, x, rfl, e⟩ := hW
      refine ⟨_, rfl, rfl, _, rfl, ite2 (fun c => ?_) (fun c => ?_)⟩
      · have hm : m ≠ 0 := fun z => by
          subst z
          simp at c
        refine ⟨fun σ' H'' => H'' = H' ∧ σ' = [some (.int (a : Int)), some (.int (b : Int)), some (.int (m : Int)), some (.int ((x % m : Nat) : Int))], fun σ' H'' ⟨e1, e2⟩ => ⟨x % m, Nat.mod_lt _ (Nat.pos_of_ne_zero hm), e1, m, e2, ?_⟩, ?_⟩
        · rw [← e, Nat.gcd_comm x m, Nat.gcd_rec m x, Nat.gcd_comm]
        · refine ⟨_, rfl, _, rfl, _, rfl, _, _, rfl, rfl, (by show (0 : Int) < (m : Int); omega), _, _, rfl, rfl, ?_⟩
          rfl
      · have hm : m = 0 := by
          simpa using c
        subst hm
        rw [Nat.gcd_zero_right] at e
        subst e
        exact ⟨_, rfl, q⟩
theorem scLGcd : FnScope ["_law_one", "_law_other"] ["_law_one", "_law_other"] (defScope sLGcd) := ⟨rfl, rfl, rfl, by decide +kernel, rfl, by decide +kernel, by decide +kernel⟩
theorem ok_lgcd {f : Addr} {fd : FuncData} (F : Fun K "_law_gcd" "_law_gcd" sLGcd f fd) (T : Bl mg) : FnOk P w K mg base CX0 1 f fd ["_law_one", "_law_other"] spGcd := by
  refine F.ok scLGcd (fun vs H Q E h => ?_) (fun cdv A outer s H vs Q E hr h => ?_)
  · obtain ⟨a, b, rfl, _⟩ := h
    rfl
  · obtain ⟨a, b, rfl, q⟩ := h
    refine ⟨_, pss_cons (ps_par (i := 0) (j := 1) rfl scLGcd.nd rfl rfl (by decide) rfl rfl (pa_cons (pe_callB call_abs (by rfl) T.abs boot_abs (pa_cons (pv 0) pa_nil)) (pa_cons (pe_callB call_abs (by rfl) T.abs boot_abs (pa_cons (pv 1) pa_nil)) pa_nil)) (by rfl))
      (pss_cons (ps_while PassesOwn.never (pt_cmpR op_gt (pv 1) pe_int (nomark _)) (pss_one (ps_par (i := 0) (j := 1) rfl scLGcd.nd rfl rfl (by decide) rfl rfl (pa_cons (pv 1) (pa_cons (pe_op op_mod (pv 0) (pv 1)) pa_nil)) (by rfl))))
      (pss_one (ps_ret (pv 0)))), ?_⟩
    refine ⟨_, rfl, _, rfl, _, rfl, _, rfl, _, _, rfl, ?_⟩
    refine ⟨fun m σ H' => H' = H ∧ ∃ x : Nat, σ = [some (.int (x : Int)), some (.int (m : Int))] ∧ Nat.gcd x m = Nat.gcd a b, ⟨b, rfl, a, ?_, rfl⟩, fun m σ H' hW => ?_⟩
    · show [some (V.int (if (a : Int) < 0 then -(a : Int) else (a : Int))), some (V.int (if (b : Int) < 0 then -(b : Int) else (b : Int)))] = _
      rw [abs_nat, abs_nat]
    · obtain ⟨rfl, x, rfl, e⟩ := hW
      refine ⟨_, rfl, _, _, rfl, rfl, _, rfl, ite2 (fun c => ?_) (fun c => ?_)⟩
      · have hm : 0 < m := by
          have := of_decide_eq_true c
          omega
        refine ⟨fun σ' H'' => H'' = H' ∧ σ' = [some (.int (m : Int)), some (.int ((x % m : Nat) : Int))], fun σ' H'' ⟨e1, e2⟩ => ⟨x % m, Nat.mod_lt _ hm, e1, m, e2, ?_⟩, ?_⟩
        · rw [← e, Nat.gcd_comm x m, Nat.gcd_rec m x, Nat.gcd_comm]
        · refine ⟨_, rfl, _, rfl, _, rfl, _, _, rfl, rfl, (by show (0 : Int) < (m : Int); omega), _, _, rfl, rfl, ?_⟩
          rfl
      · have hm : m = 0 := by
          have h0 : ¬ (0 : Int) < (m : Int) := fun z => c (decide_eq_true z)
          omega
        subst hm
        rw [Nat.gcd_zero_right] at e
        subst e
        exact ⟨_, rfl, q⟩

/-! ### is_power_pair -/
theorem scPair : FnScope ["value", "one"] ["value"] (defScope sPair) := ⟨rfl, rfl, rfl, by decide +kernel, rfl, by decide +kernel, by decide +kernel⟩
theorem ok_pair {f g : Addr} {fd gd : FuncData} (F : Fun K "is_power_pair" "is_power_pair" sPair f fd) (FI : Fun K "is_integer" "is_integer" sIsInt g gd) (bI : Binds K gd ["value"] []) (mI : mg "is_integer" = some (.ref g)) (T : Bl mg) (C : Cn mg) : FnOk P w K mg base CX0 2 f fd ["value"] spPair := by
  have GI : FnOk P w K mg base CX0 1 g gd ["value"] spInt := ok_isint FI T
  obtain ⟨uS, mS, rS⟩ := C.step
  obtain ⟨uP, mP, rP⟩ := C.power
  refine F.ok scPair (fun vs H Q E h => ?_) (fun cdv A outer s H vs Q E hr h => ?_)
  · obtain ⟨t, s, p, rfl, _⟩ := h
    rfl
  · obtain ⟨t, s, p, rfl, ht, s1, s2, p0, p1, p2, q⟩ := h
    refine ⟨_, pss_cons (ps_if (PW.pt (pw_or (pt_not (pt_val (pe_callB call_isi (by rfl) T.isinstance boot_isinstance (pa_cons (pv 0) (pa_cons (pe_bltn (v := .ty "tuple") (by rfl) T.tuple boot_tuple rfl) pa_nil)))))
        (pw_or (pt_cmpR op_ne (pe_callB call_len_seq (by rfl) T.len PySem.boot_len (pa_cons (pv 0) pa_nil)) pe_int (nomark _))
        (pw_or1 (pt_not (pt_val (pe_callB (cr_all rfl) (by rfl) T.all boot_all (pa_cons (pe_lc (own := [("one", 1)]) (g := gName 1) (tt := tYes) rfl scPair.nd (pi_tup (pv 0)) (blkOk_by (N := ["value", "one"]) (sc := defScope sPair) (by decide +kernel))
            (fun _ _ _ _ _ => pg_name (i := 1) scPair.nd rfl (Or.inl rfl)) (fun _ _ _ _ _ => pts_nil) (fun _ _ _ _ _ => pe_call GI hr (by rfl) mI FI.kp bI .nil pass0 (pa_cons (pv 1) pa_nil))) pa_nil))))))))
        (pss_one (ps_ret pe_bl)) pss_nil)
      (pss_one (ps_ret (pe_and (pe_chain op_le op_le pe_int (pe_ix ix_tup (pv 0) pe_int (fun _ _ => rfl)) (pe_glob (by rfl) mS rS))
        (pe_and (pe_cmpR op_ne (pe_ix ix_tup (pv 0) pe_int (fun _ _ => rfl)) pe_int (nomark _))
        (pe_one (pe_cmpR op_le (pe_callB call_abs (by rfl) T.abs boot_abs (pa_cons (pe_ix ix_tup (pv 0) pe_int (fun _ _ => rfl)) pa_nil)) (pe_glob (by rfl) mP rP) (nomark _))))))), ?_⟩
    -- isinstance(value, tuple)
    refine ⟨.ref t, rfl, .ref t, .ty "tuple", .type "tuple", .type "tuple", true, rfl, .ty _, .base (.tup ht), kit_ty (by decide +kernel), true, rfl, ?_⟩
    refine iteF ?_
    -- len(value) != 2
    refine ⟨.ref t, rfl, t, _, rfl, .inr (SqT.of ht), rfl, _, rfl, ?_⟩
    refine iteF ?_
    -- all(..)
    refine ⟨.ref t, rfl, t, rfl, ⟨_, SqT.of ht⟩, fun D hD => lc_tup (K := K) (a := t) (xs := [.int s, .int p]) (fun i H' => Same H H' ∧ H' D = some (.lst ((List.replicate i true).map V.bl)))
      ⟨same_upd hD, upd_same⟩ (fun i H' _ hp => SqT.of (hp.1 _ _ ht)) (fun i x H' hx hp => ?_) (fun H' hp => ?_)⟩
    · obtain ⟨sm, hd⟩ := hp
      have hi : i < 2 := (List.getElem?_eq_some_iff.mp hx).1
      obtain ⟨z, rfl⟩ : ∃ z, x = V.int z := by
        match i, hi with
        | 0, _ => exact ⟨s, (Option.some.inj hx).symm⟩
        | 1, _ => exact ⟨p, (Option.some.inj hx).symm⟩
      refine ⟨rfl, ⟨.int z, rfl, z, rfl, _, hd, ?_, ?_, ?_⟩⟩
      · rw [List.length_map, List.length_replicate]
        exact small (by omega)
      · exact same_updT sm hD
      · rw [upd_same, List.replicate_succ', List.map_append] <;> rfl
    · obtain ⟨sm, hd⟩ := hp
      refine ⟨D, List.replicate 2 true, rfl, SqL.of hd, true, rfl, ?_⟩
      refine iteF ?_
      have ht' := sm _ _ ht
      refine ⟨.ref t, rfl, t, _, 0, _, rfl, rfl, SqT.of ht', at0, 1, s, rfl, rfl, true, ?_, iteT ⟨s, 60, rfl, rfl, true, ?_, iteT ?_⟩⟩
      · exact congrArg V.bl (decide_eq_true s1)
      · exact congrArg V.bl (decide_eq_true s2)
      · refine ⟨.ref t, rfl, t, _, 1, _, rfl, rfl, SqT.of ht', at1, rfl, true, ?_, iteT ?_⟩
        · rw [decide_eq_false (fun z => p0 (V.int.inj z))] <;> rfl
        · refine ⟨.ref t, rfl, t, _, 1, _, rfl, rfl, SqT.of ht', at1, p, rfl, _, 60, rfl, rfl, ?_⟩
          have e : decide ((if p < 0 then -p else p) ≤ 60) = true := decide_eq_true (by split <;> omega)
          show Q (.bl (decide ((if p < 0 then -p else p) ≤ 60))) H'
          rw [e]
          exact q H' sm
end
end K61

/-! ## K61B -/
namespace K61
open PySem PySem.Spec PyProof.Rows L2

/-! ### xs[1:] of a tuple, whatever its length -/
theorem cut1 (xs : List V) : cutV xs (some 1) none = xs.drop 1 := by
  unfold cutV
  rw [show HT.sIx xs.length 0 (some 1) = min 1 xs.length from HT.sIx_nat xs.length 0 1, HT.sIx_none]
  cases xs with
  | nil => rfl
  | cons x r =>
    rw [show min 1 (x :: r).length = 1 by
      rw [List.length_cons]
      omega]
    show (List.take ((x :: r).length - 1) r) = r
    rw [List.length_cons, Nat.add_sub_cancel]
    exact List.take_length
def rTail (K : PySem.W.Frag) : V → Option Int → Option Int → Hp → VK → Prop := fun x lo hi H Q => ∃ a xs, x = .ref a ∧ lo = some 1 ∧ hi = none ∧ SqT K H a xs ∧ ∀ b H1, Same H H1 → SqT K H1 b (xs.drop 1) → Q (.ref b) H1
theorem sl_tail {X : Cx} : SlR X (rTail X.K) := by
  intro pins s σ H x v vl vu lo hi sl Q I rx hs pl pu h
  obtain ⟨a, xs, rfl, rfl, rfl, hq, k⟩ := h
  refine sl_tupA pins s σ H _ v vl vu _ _ sl Q I rx hs pl pu ⟨a, xs, rfl, hq, fun hw => ?_, fun _ p np => ?_⟩
  · have h0 : xs = [] := by
      have e : min 1 xs.length = 0 := (HT.sIx_nat xs.length 0 1).symm.trans hw.1
      exact List.eq_nil_of_length_eq_zero (by omega)
    subst h0
    exact k a H (Same.refl H) hq
  · refine k p _ (same_upd np) (.inl (.inl ?_))
    rw [upd_same, cut1]
/-! ### zip of two tuples as a walk -/
theorem walk_zipT {K : PySem.W.Frag} {a b : Addr} {xs ys : List V} {n : Nat} (hn : n = min xs.length ys.length) : Walk (RZ.ItzT K a b) n (fun H => SqT K H a xs ∧ SqT K H b ys) (YPair (fun i => xs[i]?) (fun i => ys[i]?)) :=
  ⟨fun i H hi ⟨h1, h2⟩ => ⟨xs, ys, xs[i]'(by omega), ys[i]'(by omega), h1, h2, List.getElem?_eq_getElem _, List.getElem?_eq_getElem _⟩, fun H ⟨h1, h2⟩ => ⟨xs, ys, h1, h2, by omega⟩,
    fun i H x H' hi ⟨h1, h2⟩ ⟨T, x', y', e, n', e2, f1, f2⟩ => ⟨T, x', y', e, n', e2, f1 _ h1, f2 _ h2⟩⟩
section
variable {P : Program} {w : World} {K : PySem.W.Frag} {mg : Str → Option Value} {base : Heap}

/-! ### is_product_value, want_product -/
/-- the defs that stand beneath a product's test -/
structure DProd (K : PySem.W.Frag) (mg : Str → Option Value) (g h k : Addr) (gd hd kd : FuncData) : Prop where
  FI : Fun K "is_integer" "is_integer" sIsInt g gd
  bI : Binds K gd ["value"] []
  mI : mg "is_integer" = some (.ref g)
  FP : Fun K "is_power_pair" "is_power_pair" sPair h hd
  bP : Binds K hd ["value"] []
  mP : mg "is_power_pair" = some (.ref h)
  FV : Fun K "is_product_value" "is_product_value" sIsProd k kd
  bV : Binds K kd ["value"] []
  mV : mg "is_product_value" = some (.ref k)
theorem scIsProd : FnScope ["value", "powers", "one", "late"] ["value"] (defScope sIsProd) := ⟨rfl, rfl, rfl, by decide +kernel, rfl, by decide +kernel, by decide +kernel⟩
theorem ok_isprod {g h k : Addr} {gd hd kd : FuncData} (Z : DProd K mg g h k gd hd kd) (T : Bl mg) (C : Cn mg) : FnOk P w K mg base CX0 3 k kd ["value"] spIsProd := by
  have GP : FnOk P w K mg base CX0 2 h hd ["value"] spPair := ok_pair Z.FP Z.FI Z.bI Z.mI T C
  obtain ⟨uW, mW, rW⟩ := C.word
  obtain ⟨uS, mS, rS⟩ := C.steps
  refine Z.FV.ok scIsProd (fun vs H Q E h => ?_) (fun cdv A outer s H vs Q E hr h => ?_)
  · obtain ⟨a, ps, rfl, _⟩ := h
    rfl
  · obtain ⟨a, ps, rfl, hP, hG, q⟩ := h
    obtain ⟨t, as, ha, ht, hl, hx⟩ := id hP
    refine ⟨_, pss_cons (ps_if (PW.pt (pw_or (pt_not (pt_val (pe_callB call_isi (by rfl) T.isinstance boot_isinstance (pa_cons (pv 0) (pa_cons (pe_bltn (v := .ty "tuple") (by rfl) T.tuple boot_tuple rfl) pa_nil)))))
        (pw_or (pt_cmpR op_ne (pe_callB call_len_seq (by rfl) T.len PySem.boot_len (pa_cons (pv 0) pa_nil)) pe_int (nomark _))
        (pw_or (pt_not (pt_val (pe_callB call_isi (by rfl) T.isinstance boot_isinstance (pa_cons (pe_ix ix_tup (pv 0) pe_int (fun _ _ => rfl)) (pa_cons (pe_bltn (v := .ty "str") (by rfl) T.str boot_str rfl) pa_nil)))))
        (pw_or1 (pt_cmpR op_ne (pe_ix ix_tup (pv 0) pe_int (fun _ _ => rfl)) (pe_glob (by rfl) mW rW) (nomark _)))))))
        (pss_one (ps_ret pe_bl)) pss_nil)
      (pss_cons (ps_set (i := 1) scIsProd.nd rfl (Or.inl rfl) (pe_ix ix_tup (pv 0) pe_int (fun _ _ => rfl)))
      (pss_cons (ps_if (PW.pt (pw_or (pt_not (pt_val (pe_callB call_isi (by rfl) T.isinstance boot_isinstance (pa_cons (pv 1) (pa_cons (pe_bltn (v := .ty "tuple") (by rfl) T.tuple boot_tuple rfl) pa_nil)))))
        (pw_or (pt_cmpR op_gt (pe_callB call_len_seq (by rfl) T.len PySem.boot_len (pa_cons (pv 1) pa_nil)) (pe_glob (by rfl) mS rS) (nomark _))
        (pw_or1 (pt_not (pt_val (pe_callB (cr_all rfl) (by rfl) T.all boot_all (pa_cons (pe_lc (own := [("one", 2)]) (g := gName 2) (tt := tYes) rfl scIsProd.nd (pi_tup (pv 1)) (blkOk_by (N := ["value", "powers", "one", "late"]) (sc := defScope sIsProd) (by decide +kernel))
            (fun _ _ _ _ _ => pg_name (i := 2) scIsProd.nd rfl (Or.inl rfl)) (fun _ _ _ _ _ => pts_nil) (fun _ _ _ _ _ => pe_call GP hr (by rfl) Z.mP Z.FP.kp Z.bP .nil pass0 (pa_cons (pv 2) pa_nil))) pa_nil))))))))
        (pss_one (ps_ret pe_bl)) pss_nil)
      (pss_one (ps_ret (pe_callB (cr_all rfl) (by rfl) T.all boot_all (pa_cons (pe_lc (own := [("one", 2), ("late", 3)]) (g := gTup K 2 (gCons (gName 2) (gCons (gName 3) gNil))) (tt := tYes) rfl scIsProd.nd
            (RZ.pi_zipA (by rfl) T.zip (pa_cons (pv 1) (pa_cons (pe_slice sl_tail (pv 1) (po_some pe_int) po_none) pa_nil))) (blkOk_by (N := ["value", "powers", "one", "late"]) (sc := defScope sIsProd) (by decide +kernel))
            (fun _ _ _ _ _ => pg_tup rfl (pgs_cons (pg_name (i := 2) scIsProd.nd rfl (Or.inl rfl)) (pgs_cons (pg_name (i := 3) scIsProd.nd rfl (Or.inl rfl)) pgs_nil))) (fun _ _ _ _ _ => pts_nil)
            (fun _ _ _ _ _ => pe_cmpR op_lt (pe_ix (r := rIxT K) ix_tup (pv 2) pe_int (fun _ _ => rfl)) (pe_ix (r := rIxT K) ix_tup (pv 3) pe_int (fun _ _ => rfl)) (nomark _))) pa_nil)))))), ?_⟩
    have ha2 : SqT K H a [.str "product", .ref t] := SqT.of ha
    -- the first test
    refine ⟨.ref a, rfl, .ref a, .ty "tuple", .type "tuple", .type "tuple", true, rfl, .ty _, .base (.tup ha), kit_ty (by decide +kernel), true, rfl, iteF ?_⟩
    refine ⟨.ref a, rfl, a, _, rfl, .inr ha2, rfl, _, rfl, iteF ?_⟩
    refine ⟨.ref a, rfl, a, _, 0, _, rfl, rfl, ha2, at0, .str "product", .ty "str", .type "str", .type "str", true, rfl, .ty _, .base (.str _), kit_ty (by decide +kernel), true, rfl, iteF ?_⟩
    refine ⟨.ref a, rfl, a, _, 0, _, rfl, rfl, ha2, at0, rfl, _, rfl, ?_⟩
    refine iteNS rfl ?_
    -- powers = value[1]
    refine ⟨.ref a, rfl, a, _, 1, _, rfl, rfl, ha2, at1, ?_⟩
    -- the second test
    refine ⟨.ref t, rfl, .ref t, .ty "tuple", .type "tuple", .type "tuple", true, rfl, .ty _, .base (.tup ht), kit_ty (by decide +kernel), true, rfl, iteF ?_⟩
    refine ⟨.ref t, rfl, t, _, rfl, .inr (SqT.of ht), _, 12, rfl, rfl, _, rfl, ?_⟩
    have e12 : decide ((12 : Int) < (((as.map V.ref).length : Nat) : Int)) = false := decide_eq_false (by
      rw [List.length_map, hl]
      have := hG.len
      omega)
    rw [e12]
    refine iteF ?_
    -- all(is_power_pair ..)
    refine ⟨.ref t, rfl, t, rfl, ⟨_, SqT.of ht⟩, fun D hD => lc_tup (K := K) (a := t) (xs := as.map V.ref) (fun i H' => Same H H' ∧ H' D = some (.lst ((List.replicate i true).map V.bl)))
      ⟨same_upd hD, upd_same⟩ (fun i H' _ hp => SqT.of (hp.1 _ _ ht)) (fun i x H' hx' hp => ?_) (fun H' hp => ?_)⟩
    · obtain ⟨sm, hd'⟩ := hp
      have hi : i < as.length := by
        have z := (List.getElem?_eq_some_iff.mp hx').1
        rw [List.length_map] at z
        exact z
      have hip : i < ps.length := by omega
      have e : x = .ref as[i] := by
        rw [List.getElem?_map, List.getElem?_eq_getElem hi] at hx'
        exact (Option.some.inj hx').symm
      subst e
      obtain ⟨o1, o2, o3, o4, o5⟩ := hG.one ps[i] (List.getElem_mem hip)
      refine ⟨rfl, .ref as[i], rfl, as[i], ps[i].1, ps[i].2, rfl, sm _ _ (hx i _ _ (List.getElem?_eq_getElem hi) (List.getElem?_eq_getElem hip)), o1, o2, o3, o4, o5, fun H2 s2 => ⟨_, s2 _ _ hd', ?_, ?_, ?_⟩⟩
      · rw [List.length_map, List.length_replicate]
        have := hG.len
        exact small (by omega)
      · exact same_updT (sm.trans s2) hD
      · rw [upd_same, List.replicate_succ', List.map_append] <;> rfl
    · obtain ⟨sm, hd'⟩ := hp
      refine ⟨D, List.replicate (as.map V.ref).length true, rfl, SqL.of hd', (List.replicate (as.map V.ref).length true).all id, rfl, ?_⟩
      have eall : (List.replicate (as.map V.ref).length true).all id = true := List.all_eq_true.mpr fun b hb => (List.mem_replicate.mp hb).2
      rw [eall]
      refine iteF ?_
      -- all(one[0] < late[0] ..)
      refine ⟨.ref t, rfl, .ref t, rfl, 1, rfl, t, _, rfl, rfl, rfl, SqT.of (sm _ _ ht), fun b H1 s1 hb => ?_⟩
      have sm1 : Same H H1 := sm.trans s1
      have hlen : as.length - 1 = min (as.map V.ref).length ((as.map V.ref).drop 1).length := by
        rw [List.length_drop, List.length_map]
        omega
      refine ⟨t, b, _, _, rfl, .inr ⟨SqT.of (sm1 _ _ ht), hb, fun D2 hD2 => lc_it (walk_zipT (K := K) (a := t) (b := b) hlen) (fun i H' => Same H1 H' ∧ H' D2 = some (.lst ((List.replicate i true).map V.bl)))
        ⟨same_upd hD2, upd_same⟩ (fun i H' _ hp => ⟨SqT.of (hp.1 _ _ (sm1 _ _ ht)), ?_⟩) (fun i v H2 H3 hi hp hy => ?_) (fun H' hp => ?_)⟩⟩
      · exact (match hb with
          | .inl (.inl z) => .inl (.inl (hp.1 _ _ z))
          | .inl (.inr ⟨o, z⟩) => .inl (.inr ⟨o, hp.1 _ _ z⟩)
          | .inr z => .inr z)
      · obtain ⟨s2, hd2⟩ := hp
        obtain ⟨T2, x, y, rfl, nT, rfl, f1, f2⟩ := hy
        have hi1 : i < as.length := by omega
        have hi2 : i + 1 < as.length := by omega
        have p1 : i < ps.length := by omega
        have p2 : i + 1 < ps.length := by omega
        have ex : x = .ref as[i] := by
          have z : (as.map V.ref)[i]? = some x := f1
          rw [List.getElem?_map, List.getElem?_eq_getElem hi1] at z
          exact (Option.some.inj z).symm
        have ey : y = .ref as[i + 1] := by
          have z : ((as.map V.ref).drop 1)[i]? = some y := f2
          rw [List.getElem?_drop, Nat.add_comm 1 i, List.getElem?_map, List.getElem?_eq_getElem hi2] at z
          exact (Option.some.inj z).symm
        subst ex ey
        have sm3 : Same H (upd H2 T2 (.tup [.ref as[i], .ref as[i + 1]])) := (sm1.trans s2).trans (same_upd nT)
        have g1 := sm3 _ _ (hx i _ _ (List.getElem?_eq_getElem hi1) (List.getElem?_eq_getElem p1))
        have g2 := sm3 _ _ (hx (i + 1) _ _ (List.getElem?_eq_getElem hi2) (List.getElem?_eq_getElem p2))
        have lt : ps[i].1 < ps[i + 1].1 := List.pairwise_iff_getElem.mp hG.rise i (i + 1) p1 p2 (Nat.lt_succ_self i)
        have nD : D2 ≠ T2 := ne_of_none hd2 nT
        have hd3 : (upd H2 T2 (.tup [.ref as[i], .ref as[i + 1]])) D2 = some (.lst ((List.replicate i true).map V.bl)) := by
          rw [upd_ne nD]
          exact hd2
        refine ⟨T2, _, rfl, SqT.of upd_same, rfl, _, _, rfl, _, _, rfl, rfl, rfl, ?_⟩
        refine ⟨.ref as[i], rfl, as[i], _, 0, _, rfl, rfl, SqT.of g1, at0, .ref as[i + 1], rfl, as[i + 1], _, 0, _, rfl, rfl, SqT.of g2, at0, ps[i].1, ps[i + 1].1, rfl, rfl, _, hd3, ?_, ?_⟩
        · rw [List.length_map, List.length_replicate]
          have := hG.len
          exact small (by omega)
        · refine ⟨same_updT (s2.trans (same_upd nT)) hD2, ?_⟩
          rw [upd_same, List.replicate_succ', List.map_append]
          show some (HO.lst (_ ++ [V.bl (decide (ps[i].1 < ps[i + 1].1))])) = _
          rw [decide_eq_true lt] <;> rfl
      · obtain ⟨s2, hd2⟩ := hp
        refine ⟨D2, List.replicate (as.length - 1) true, rfl, SqL.of hd2, ?_⟩
        have eall2 : (List.replicate (as.length - 1) true).all id = true := List.all_eq_true.mpr fun b hb => (List.mem_replicate.mp hb).2
        show Q (.bl ((List.replicate (as.length - 1) true).all id)) H'
        rw [eall2]
        exact q H' (sm1.trans s2)
theorem scWantProd : FnScope ["value"] ["value"] (defScope sWantProd) := ⟨rfl, rfl, rfl, by decide +kernel, rfl, by decide +kernel, by decide +kernel⟩
theorem ok_wantprod {f g h k : Addr} {fd gd hd kd : FuncData} (F : Fun K "want_product" "want_product" sWantProd f fd) (Z : DProd K mg g h k gd hd kd) (T : Bl mg) (C : Cn mg) : FnOk P w K mg base CX0 4 f fd ["value"] spWantProd := by
  have GV : FnOk P w K mg base CX0 3 k kd ["value"] spIsProd := ok_isprod Z T C
  refine F.ok scWantProd (fun vs H Q E h => ?_) (fun cdv A outer s H vs Q E hr h => ?_)
  · obtain ⟨a, ps, rfl, _⟩ := h
    rfl
  · obtain ⟨a, ps, rfl, hP, hG, q⟩ := h
    refine ⟨_, pss_cons (ps_if (pt_not (pt_val (pe_call GV hr (by rfl) Z.mV Z.FV.kp Z.bV .nil pass0 (pa_cons (pv 0) pa_nil)))) (pss_one ps_never) pss_nil) (pss_one (ps_ret (pv 0))), ?_⟩
    refine ⟨.ref a, rfl, a, ps, rfl, hP, hG, fun H' sm => ⟨true, rfl, iteF ?_⟩⟩
    exact ⟨.ref a, rfl, q H' sm⟩

/-! ### the sum -/
theorem scStepSum : FnScope ["product", "step", "power"] ["product"] (defScope sStepSum) := ⟨rfl, rfl, rfl, by decide +kernel, rfl, by decide +kernel, by decide +kernel⟩
theorem ok_stepsum {f : Addr} {fd : FuncData} (F : Fun K "step_sum" "step_sum" sStepSum f fd) (T : Bl mg) : FnOk P w K mg base CX0 1 f fd ["product"] spSum := by
  refine F.ok scStepSum (fun vs H Q E h => ?_) (fun cdv A outer s H vs Q E hr h => ?_)
  · obtain ⟨a, ps, rfl, _⟩ := h
    rfl
  · obtain ⟨a, ps, rfl, hP, hG, q⟩ := h
    obtain ⟨t, as, ha, ht, hl, hx⟩ := id hP
    refine ⟨_, pss_one (ps_ret (pe_callB (cr_sum rfl) (by rfl) T.sum boot_sum (pa_cons (pe_lc (own := [("step", 1), ("power", 2)]) (g := gTup K 2 (gCons (gName 1) (gCons (gName 2) gNil))) (tt := tYes) rfl scStepSum.nd
        (pi_tup (pe_ix ix_tup (pv 0) pe_int (fun _ _ => rfl))) (blkOk_by (N := ["product", "step", "power"]) (sc := defScope sStepSum) (by decide +kernel))
        (fun _ _ _ _ _ => pg_tup rfl (pgs_cons (pg_name (i := 1) scStepSum.nd rfl (Or.inl rfl)) (pgs_cons (pg_name (i := 2) scStepSum.nd rfl (Or.inl rfl)) pgs_nil))) (fun _ _ _ _ _ => pts_nil)
        (fun _ _ _ _ _ => pe_op op_mul (pv 1) (pv 2))) pa_nil))), ?_⟩
    refine ⟨.ref a, rfl, a, _, 1, _, rfl, rfl, SqT.of ha, at1, t, rfl, ⟨_, SqT.of ht⟩, fun D hD => lc_tup (K := K) (a := t) (xs := as.map V.ref) (fun i H' => Same H H' ∧ H' D = some (.lst (((ps.take i).map fun p => p.1 * p.2).map V.int)))
      ⟨same_upd hD, upd_same⟩ (fun i H' _ hp => SqT.of (hp.1 _ _ ht)) (fun i x H' hx' hp => ?_) (fun H' hp => ?_)⟩
    · obtain ⟨sm, hd'⟩ := hp
      have hi : i < as.length := by
        have z := (List.getElem?_eq_some_iff.mp hx').1
        rw [List.length_map] at z
        exact z
      have hip : i < ps.length := by omega
      have e : x = .ref as[i] := by
        rw [List.getElem?_map, List.getElem?_eq_getElem hi] at hx'
        exact (Option.some.inj hx').symm
      subst e
      obtain ⟨o1, o2, o3, o4, o5⟩ := hG.one ps[i] (List.getElem_mem hip)
      refine ⟨as[i], _, rfl, SqT.of (sm _ _ (hx i _ _ (List.getElem?_eq_getElem hi) (List.getElem?_eq_getElem hip))), rfl, _, _, rfl, _, _, rfl, rfl, rfl, ?_⟩
      refine ⟨_, rfl, _, rfl, ps[i].1, ps[i].2, rfl, rfl, .inl ⟨by omega, by omega⟩, _, hd', ?_, ?_, ?_⟩
      · rw [List.length_map, List.length_map, List.length_take]
        have := hG.len
        exact small (by omega)
      · exact same_updT sm hD
      · rw [upd_same, List.take_add_one, List.getElem?_eq_getElem hip, List.map_append, List.map_append] <;> rfl
    · obtain ⟨sm, hd'⟩ := hp
      refine ⟨D, _, rfl, SqL.of hd', ?_⟩
      rw [List.length_map, hl, List.take_length]
      exact q H' sm
theorem scLSum : FnScope ["_law_product_here", "_law_step", "_law_power"] ["_law_product_here"] (defScope sLSum) := ⟨rfl, rfl, rfl, by decide +kernel, rfl, by decide +kernel, by decide +kernel⟩
theorem ok_lsum {f : Addr} {fd : FuncData} (F : Fun K "_law_sum" "_law_sum" sLSum f fd) (T : Bl mg) : FnOk P w K mg base CX0 1 f fd ["_law_product_here"] spSum := by
  refine F.ok scLSum (fun vs H Q E h => ?_) (fun cdv A outer s H vs Q E hr h => ?_)
  · obtain ⟨a, ps, rfl, _⟩ := h
    rfl
  · obtain ⟨a, ps, rfl, hP, hG, q⟩ := h
    obtain ⟨t, as, ha, ht, hl, hx⟩ := id hP
    refine ⟨_, pss_one (ps_ret (pe_callB (cr_sum rfl) (by rfl) T.sum boot_sum (pa_cons (pe_lc (own := [("_law_step", 1), ("_law_power", 2)]) (g := gTup K 2 (gCons (gName 1) (gCons (gName 2) gNil))) (tt := tYes) rfl scLSum.nd
        (pi_tup (pe_ix ix_tup (pv 0) pe_int (fun _ _ => rfl))) (blkOk_by (N := ["_law_product_here", "_law_step", "_law_power"]) (sc := defScope sLSum) (by decide +kernel))
        (fun _ _ _ _ _ => pg_tup rfl (pgs_cons (pg_name (i := 1) scLSum.nd rfl (Or.inl rfl)) (pgs_cons (pg_name (i := 2) scLSum.nd rfl (Or.inl rfl)) pgs_nil))) (fun _ _ _ _ _ => pts_nil)
        (fun _ _ _ _ _ => pe_op op_mul (pv 1) (pv 2))) pa_nil))), ?_⟩
    refine ⟨.ref a, rfl, a, _, 1, _, rfl, rfl, SqT.of ha, at1, t, rfl, ⟨_, SqT.of ht⟩, fun D hD => lc_tup (K := K) (a := t) (xs := as.map V.ref) (fun i H' => Same H H' ∧ H' D = some (.lst (((ps.take i).map fun p => p.1 * p.2).map V.int)))
      ⟨same_upd hD, upd_same⟩ (fun i H' _ hp => SqT.of (hp.1 _ _ ht)) (fun i x H' hx' hp => ?_) (fun H' hp => ?_)⟩
    · obtain ⟨sm, hd'⟩ := hp
      have hi : i < as.length := by
        have z := (List.getElem?_eq_some_iff.mp hx').1
        rw [List.length_map] at z
        exact z
      have hip : i < ps.length := by omega
      have e : x = .ref as[i] := by
        rw [List.getElem?_map, List.getElem?_eq_getElem hi] at hx'
        exact (Option.some.inj hx').symm
      subst e
      obtain ⟨o1, o2, o3, o4, o5⟩ := hG.one ps[i] (List.getElem_mem hip)
      refine ⟨as[i], _, rfl, SqT.of (sm _ _ (hx i _ _ (List.getElem?_eq_getElem hi) (List.getElem?_eq_getElem hip))), rfl, _, _, rfl, _, _, rfl, rfl, rfl, ?_⟩
      refine ⟨_, rfl, _, rfl, ps[i].1, ps[i].2, rfl, rfl, .inl ⟨by omega, by omega⟩, _, hd', ?_, ?_, ?_⟩
      · rw [List.length_map, List.length_map, List.length_take]
        have := hG.len
        exact small (by omega)
      · exact same_updT sm hD
      · rw [upd_same, List.take_add_one, List.getElem?_eq_getElem hip, List.map_append, List.map_append] <;> rfl
    · obtain ⟨sm, hd'⟩ := hp
      refine ⟨D, _, rfl, SqL.of hd', ?_⟩
      rw [List.length_map, hl, List.take_length]
      exact q H' sm
end
end K61

/-! ## K61C -/
namespace K61
open PySem PySem.Spec PyProof.Rows L2
/-! ### dicts that hold True at some ints -/
def mkT (j : Int) : L2.Key × V := (Sum.inl j, V.bl true)
def addK (ks : List Int) (j : Int) : List Int := if j ∈ ks then ks else ks ++ [j]
theorem mem_addK {ks : List Int} {j x : Int} : x ∈ addK ks j ↔ x ∈ ks ∨ x = j := by
  unfold addK
  split
  · next h =>
    constructor
    · exact .inl
    · rintro (z | z)
      · exact z
      · rw [z]
        exact h
  · simp
theorem nodup_addK {ks : List Int} (h : ks.Nodup) (j : Int) : (addK ks j).Nodup := by
  unfold addK
  split
  · exact h
  · next hj => exact List.nodup_append.mpr ⟨h, by simp, fun a ha b hb e => by
      rw [List.mem_singleton] at hb
      subst hb
      subst e
      exact hj ha⟩
theorem len_addK (ks : List Int) (j : Int) : (addK ks j).length ≤ ks.length + 1 := by
  unfold addK
  split
  · omega
  · simp
theorem val_mkT (j : Int) : ∀ ks : List Int, valV (ks.map mkT) (Sum.inl j : L2.Key) = if j ∈ ks then some (V.bl true) else none
  | [] => rfl
  | a :: r => by
    rw [List.map_cons]
    by_cases e : a = j
    · subst e
      rw [valV_pos (p := mkT a) (r := r.map mkT) (k := (Sum.inl a : L2.Key)) rfl, if_pos List.mem_cons_self] <;> rfl
    · rw [valV_neg (p := mkT a) (r := r.map mkT) (k := (Sum.inl j : L2.Key)) (fun z => e (Sum.inl.inj z)), val_mkT j r]
      by_cases h : j ∈ r
      · rw [if_pos h, if_pos (List.mem_cons_of_mem _ h)]
      · rw [if_neg h, if_neg fun z => (List.mem_cons.mp z).elim (fun q => e q.symm) h]
theorem put_mkT (ks : List Int) (j : Int) : putK (ks.map mkT) (Sum.inl j : L2.Key) (V.bl true) = (addK ks j).map mkT := by
  unfold putK addK
  rw [valV_any, val_mkT]
  by_cases h : j ∈ ks
  · rw [if_pos h, if_pos h, if_pos (show (some (V.bl true)).isSome = true from rfl), List.map_map]
    refine List.map_congr_left fun a _ => ?_
    show (if (Sum.inl a : L2.Key) = Sum.inl j then ((Sum.inl a : L2.Key), V.bl true) else mkT a) = mkT a
    split
    · rfl
    · rfl
  · rw [if_neg h, if_neg h, if_neg (by decide), List.map_append] <;> rfl
theorem merge_mkT : ∀ (L ks : List Int), mergeK (ks.map mkT) (L.map mkT) = (L.foldl addK ks).map mkT
  | [], _ => rfl
  | a :: r, ks => by
    show mergeK (putK (ks.map mkT) (Sum.inl a : L2.Key) (V.bl true)) (r.map mkT) = (r.foldl addK (addK ks a)).map mkT
    rw [put_mkT, merge_mkT r (addK ks a)]
theorem mem_foldK {x : Int} : ∀ {L ks : List Int}, x ∈ L.foldl addK ks ↔ x ∈ ks ∨ x ∈ L
  | [], ks => by simp
  | a :: r, ks => by
    rw [List.foldl_cons, mem_foldK, mem_addK, List.mem_cons, or_assoc]
theorem nodup_foldK : ∀ {L ks : List Int}, ks.Nodup → (L.foldl addK ks).Nodup
  | [], _, h => h
  | a :: r, ks, h => nodup_foldK (L := r) (ks := addK ks a) (nodup_addK h a)
theorem keys_mkT (ks : List Int) : ((ks.map mkT).map fun kv => kV kv.1) = ks.map V.int := by
  rw [List.map_map] <;> rfl
section
variable {P : Program} {w : World} {K : PySem.W.Frag} {mg : Str → Option Value} {base : Heap}

/-! ### squares -/
theorem sqRaw_len (m i : Nat) : (((List.range i).filter (okx m)).map (sqv m)).length ≤ i := by
  rw [List.length_map]
  refine Nat.le_trans (List.length_filter_le _ _) ?_
  rw [List.length_range]
  exact Nat.le_refl _
theorem raw_succ_yes {m i : Nat} (h : okx m i = true) : ((List.range (i + 1)).filter (okx m)).map (sqv m) = ((List.range i).filter (okx m)).map (sqv m) ++ [sqv m i] := by
  rw [List.range_succ, List.filter_append, List.map_append]
  simp [h]
theorem raw_succ_no {m i : Nat} (h : ¬ okx m i = true) : ((List.range (i + 1)).filter (okx m)).map (sqv m) = ((List.range i).filter (okx m)).map (sqv m) := by
  rw [List.range_succ, List.filter_append, List.map_append]
  simp [h]
theorem okx_int {m i : Nat} : ((Nat.gcd i (24 * m) : Nat) : Int) = 1 ↔ okx m i = true := by
  unfold okx
  rw [beq_iff_eq]
  omega
theorem scSqBy : FnScope ["m", "wide", "x"] ["m"] (defScope sSqBy) := ⟨rfl, rfl, rfl, by decide +kernel, rfl, by decide +kernel, by decide +kernel⟩
theorem ok_sqby {f g : Addr} {fd gd : FuncData} (F : Fun K "squares_by" "squares_by" sSqBy f fd) (FG : Fun K "greatest_common" "greatest_common" sGcd g gd) (bG : Binds K gd ["first", "second"] []) (mG : mg "greatest_common" = some (.ref g)) (T : Bl mg) : FnOk P w K mg base CX0 2 f fd ["m"] spSq := by
  have GG : FnOk P w K mg base CX0 1 g gd ["first", "second"] spGcd := ok_gcd FG T
  refine F.ok scSqBy (fun vs H Q E h => ?_) (fun cdv A outer s H vs Q E hr h => ?_)
  · obtain ⟨m, rfl, _⟩ := h
    rfl
  · obtain ⟨m, rfl, m1, m2, q⟩ := h
    refine ⟨_, pss_cons (ps_set (i := 1) scSqBy.nd rfl (Or.inr rfl) (pe_op op_mul pe_int (pv 0)))
      (pss_one (ps_ret (pe_callB (cr_sortedSet rfl) (by rfl) T.sorted boot_sorted (pa_cons (pe_callTy (cr_setL rfl) (by rfl) T.set boot_set (pa_cons (pe_lc (own := [("x", 2)]) (g := gName 2) rfl scSqBy.nd
        (pi_range1 (by rfl) T.range (pa_cons (pe_op op_mul pe_int (pv 0)) pa_nil)) (blkOk_by (N := ["m", "wide", "x"]) (sc := defScope sSqBy) (by decide +kernel))
        (fun _ _ _ _ _ => pg_name (i := 2) scSqBy.nd rfl (Or.inl rfl))
        (fun _ _ _ _ _ => pts_one (pt_cmpR op_eq (pe_call GG hr (by rfl) mG FG.kp bG .nil pass0 (pa_cons (pv 2) (pa_cons (pv 1) pa_nil))) pe_int (nomark _)))
        (fun _ _ _ _ _ => pe_op op_mod (pe_op op_mul (pv 2) (pv 2)) (pv 1))) pa_nil)) pa_nil)))), ?_⟩
    refine ⟨.int (m : Int), rfl, 24, m, rfl, rfl, .inl ⟨by decide, by decide⟩, ?_⟩
    refine ⟨.int (m : Int), rfl, 12, m, rfl, rfl, .inl ⟨by decide, by decide⟩, 12 * (m : Int), rfl, by omega, by omega, fun D hD => ?_⟩
    have en : (12 * (m : Int)).toNat = 12 * m := by omega
    rw [en]
    refine lc_range (lo := 0) (n := 12 * m) (fun i H' => Same H H' ∧ H' D = some (.lst ((((List.range i).filter (okx m)).map (sqv m)).map V.int))) ⟨same_upd hD, upd_same⟩ (fun i H' hi hp => ?_) (fun H' hp => ?_)
    · obtain ⟨sm, hd⟩ := hp
      rw [Int.zero_add]
      refine ⟨rfl, .int (i : Int), rfl, .int (24 * (m : Int)), rfl, i, 24 * m, rfl, rfl, _, rfl, ?_⟩
      refine ite2 (fun c => ?_) (fun c => ?_)
      · have ok : okx m i = true := okx_int.mp (V.int.inj (of_decide_eq_true c))
        refine ⟨.int (i : Int), rfl, .int (i : Int), rfl, i, i, rfl, rfl, .inl ⟨by omega, by omega⟩, .int (24 * (m : Int)), rfl, (i : Int) * (i : Int), 24 * (m : Int), rfl, rfl, (by show (0 : Int) < 24 * (m : Int); omega), _, hd, ?_, ?_, ?_⟩
        · rw [List.length_map]
          exact small (Nat.le_trans (sqRaw_len m i) (by omega))
        · exact same_updT sm hD
        · rw [upd_same, raw_succ_yes ok, List.map_append] <;> rfl
      · have no : ¬ okx m i = true := fun z => c (decide_eq_true (congrArg V.int (okx_int.mpr z)))
        refine ⟨sm, ?_⟩
        rw [raw_succ_no no]
        exact hd
    · obtain ⟨sm, hd⟩ := hp
      refine ⟨D, _, rfl, SqL.of hd, Nat.le_trans (sqRaw_len m (12 * m)) (by omega), fun p n np hn => ?_⟩
      have hn64 : n < 64 := by
        have z := hn (sq m) fun k hk => mem_norm.mpr hk
        have z2 := (sq_is m1 m2).len
        omega
      refine ⟨p, _, n, rfl, upd_same, hn64, fun ns p2 hs hm _ np2 => ?_⟩
      have e : ns = sq m := norm_eq hs fun x => (hm x).trans decide_eq_true_iff
      subst e
      have sm1 : Same H (upd H' p (SetO w p (fun j => decide (j ∈ ((List.range (12 * m)).filter (okx m)).map (sqv m))) n)) := sm.trans (same_upd np)
      exact q _ p2 (sm1.trans (same_upd np2)) (sm1.free np2) upd_same
theorem scLSq : FnScope ["_law_m", "_law_found", "_law_x"] ["_law_m"] (defScope sLSq) := ⟨rfl, rfl, rfl, by decide +kernel, rfl, by decide +kernel, by decide +kernel⟩
theorem ok_lsq {f g : Addr} {fd gd : FuncData} (F : Fun K "_law_squares" "_law_squares" sLSq f fd) (FG : Fun K "_law_gcd" "_law_gcd" sLGcd g gd) (bG : Binds K gd ["_law_one", "_law_other"] []) (mG : mg "_law_gcd" = some (.ref g)) (T : Bl mg) : FnOk P w K mg base CX0 2 f fd ["_law_m"] spSq := by
  have GG : FnOk P w K mg base CX0 1 g gd ["_law_one", "_law_other"] spGcd := ok_lgcd FG T
  refine F.ok scLSq (fun vs H Q E h => ?_) (fun cdv A outer s H vs Q E hr h => ?_)
  · obtain ⟨m, rfl, _⟩ := h
    rfl
  · obtain ⟨m, rfl, m1, m2, q⟩ := h
    have hu := hu_of hr
    refine ⟨_, pss_cons (ps_set (i := 1) scLSq.nd rfl (Or.inl rfl) pe_dnewK)
      (pss_cons (ps_for PassesOwn.never rfl (pi_range1 (by rfl) T.range (pa_cons (pe_op op_mul pe_int (pv 0)) pa_nil)) (pg_name (i := 2) scLSq.nd rfl (Or.inl rfl))
        (pss_one (ps_if (pt_cmpR op_eq (pe_call GG hr (by rfl) mG FG.kp bG .nil pass0 (pa_cons (pv 2) (pa_cons (pe_op op_mul pe_int (pv 0)) pa_nil))) pe_int (nomark _))
          (pss_one (ps_dput hu (pv 1) (pe_op op_mod (pe_op op_mul (pv 2) (pv 2)) (pe_op op_mul pe_int (pv 0))) pe_bl rfl)) pss_nil)))
      (pss_one (ps_ret (pe_callB cr_sortedI (by rfl) T.sorted boot_sorted (pa_cons (pe_callTy (call_list_dK rfl) (by rfl) T.list boot_list (pa_cons (pv 1) pa_nil)) pa_nil))))), ?_⟩
    intro d nd
    refine ⟨.int (m : Int), rfl, 12, m, rfl, rfl, .inl ⟨by decide, by decide⟩, 12 * (m : Int), rfl, by omega, by omega, ?_⟩
    have en : (12 * (m : Int)).toNat = 12 * m := by omega
    rw [en]
    refine for_range (lo := 0) (n := 12 * m) (fun i σ H' => ∃ (v : Option V) (ks : List Int), σ = [some (.int (m : Int)), some (.ref d), v] ∧ Same H H' ∧ H' d = some (.dK (ks.map mkT)) ∧ ks.Nodup ∧ ks.length ≤ i ∧ ∀ j, j ∈ ks ↔ j ∈ ((List.range i).filter (okx m)).map (sqv m))
      ⟨none, [], rfl, same_upd nd, upd_same, List.nodup_nil, Nat.le_refl _, fun j => by simp⟩ (fun i σ H' hi hp => ?_) (fun σ H' hp => ?_)
    · obtain ⟨v, ks, rfl, sm, hd, nk, lk, mk⟩ := hp
      rw [Int.zero_add]
      refine ⟨.int (i : Int), rfl, .int (m : Int), rfl, 24, m, rfl, rfl, .inl ⟨by decide, by decide⟩, i, 24 * m, rfl, rfl, _, rfl, ?_⟩
      refine ite2 (fun c => ?_) (fun c => ?_)
      · have ok : okx m i = true := okx_int.mp (V.int.inj (of_decide_eq_true c))
        refine ⟨.ref d, rfl, .int (i : Int), rfl, .int (i : Int), rfl, i, i, rfl, rfl, .inl ⟨by omega, by omega⟩, .int (m : Int), rfl, 24, m, rfl, rfl, .inl ⟨by decide, by decide⟩, (i : Int) * (i : Int), 24 * (m : Int), rfl, rfl, (by show (0 : Int) < 24 * (m : Int); omega), d, _, rfl,
          DPut.k (k := Sum.inl ((i : Int) * (i : Int) % (24 * (m : Int)))) hd (by rw [List.length_map]; exact small (by omega)), ?_⟩
        refine ⟨_, addK ks ((i : Int) * (i : Int) % (24 * (m : Int))), rfl, same_updT sm nd, ?_, nodup_addK nk _, Nat.le_trans (len_addK _ _) (by omega), fun j => ?_⟩
        · rw [upd_same, put_mkT]
        · rw [mem_addK, mk j, raw_succ_yes ok, List.mem_append, List.mem_singleton]
          exact Iff.rfl
      · have no : ¬ okx m i = true := fun z => c (decide_eq_true (congrArg V.int (okx_int.mpr z)))
        exact ⟨_, ks, rfl, sm, hd, nk, Nat.le_succ_of_le lk, fun j => by rw [mk j, raw_succ_no no]⟩
    · obtain ⟨v, ks, rfl, sm, hd, nk, lk, mk⟩ := hp
      refine ⟨.ref d, rfl, d, _, rfl, hd, fun l nl => ?_⟩
      refine ⟨l, ks, rfl, SqL.of (by rw [upd_same, keys_mkT]), fun ns p pr srt np => ?_⟩
      have e : ns = sq m := (norm_of_perm pr srt nk).trans (norm_congr mk)
      subst e
      have sm1 := sm.trans (same_upd (o := .lst ((ks.map mkT).map fun kv => kV kv.1)) nl)
      exact q _ p (sm1.trans (same_upd np)) (sm1.free np) upd_same

/-! ### one orbit -/
theorem scOrbitOf : FnScope ["product", "m", "t", "total", "s"] ["product", "m", "t"] (defScope sOrbitOf) := ⟨rfl, rfl, rfl, by decide +kernel, rfl, by decide +kernel, by decide +kernel⟩
theorem orb_len {S : Int} {m : Nat} {t : Int} (h1 : 1 ≤ m) (h2 : m ≤ 30) : (orbRaw S m t).length ≤ 40 := by
  unfold orbRaw
  rw [List.length_map]
  exact (sq_is h1 h2).len
theorem ok_orbitof {f g h k : Addr} {fd gd hd kd : FuncData} (F : Fun K "orbit_of" "orbit_of" sOrbitOf f fd) (FG : Fun K "greatest_common" "greatest_common" sGcd g gd) (bG : Binds K gd ["first", "second"] []) (mG : mg "greatest_common" = some (.ref g))
    (FQ : Fun K "squares_by" "squares_by" sSqBy h hd) (bQ : Binds K hd ["m"] []) (mQ : mg "squares_by" = some (.ref h)) (FS : Fun K "step_sum" "step_sum" sStepSum k kd) (bS : Binds K kd ["product"] []) (mS : mg "step_sum" = some (.ref k)) (T : Bl mg) :
    FnOk P w K mg base CX0 3 f fd ["product", "m", "t"] spOrbit := by
  have GQ : FnOk P w K mg base CX0 2 h hd ["m"] spSq := ok_sqby FQ FG bG mG T
  have GS : FnOk P w K mg base CX0 1 k kd ["product"] spSum := ok_stepsum FS T
  refine F.ok scOrbitOf (fun vs H Q E h => ?_) (fun cdv A outer s H vs Q E hr h => ?_)
  · obtain ⟨a, ps, m, t, rfl, _⟩ := h
    rfl
  · obtain ⟨a, ps, m, t, rfl, hP, hG, m1, m2, tm, q⟩ := h
    refine ⟨_, pss_cons (ps_set (i := 3) scOrbitOf.nd rfl (Or.inr rfl) (pe_call GS (hr.mono (by decide)) (by rfl) mS FS.kp bS .nil pass0 (pa_cons (pv 0) pa_nil)))
      (pss_one (ps_ret (pe_callB (cr_sortedSet rfl) (by rfl) T.sorted boot_sorted (pa_cons (pe_callTy (cr_setL rfl) (by rfl) T.set boot_set (pa_cons (pe_lc (own := [("s", 4)]) (g := gName 4) (tt := tYes) rfl scOrbitOf.nd
        (pi_list (pe_call GQ hr (by rfl) mQ FQ.kp bQ .nil pass0 (pa_cons (pv 1) pa_nil))) (blkOk_by (N := ["product", "m", "t", "total", "s"]) (sc := defScope sOrbitOf) (by decide +kernel))
        (fun _ _ _ _ _ => pg_name (i := 4) scOrbitOf.nd rfl (Or.inl rfl)) (fun _ _ _ _ _ => pts_nil)
        (fun _ _ _ _ _ => pe_op op_mod (pe_op op_add (pe_op op_mul (pv 2) (pv 4)) (pe_op op_mul (pv 3) (pe_op op_fdiv (pe_op op_sub (pv 4) pe_int) pe_int))) (pv 1))) pa_nil)) pa_nil)))), ?_⟩
    refine ⟨.ref a, rfl, a, ps, rfl, hP, hG, fun H1 s1 => ?_⟩
    refine ⟨.int (m : Int), rfl, m, rfl, m1, m2, fun H2 l s2 nl hl => ?_⟩
    have Z := sq_is m1 m2
    refine ⟨l, rfl, ⟨_, SqL.of hl⟩, fun D hD => lc_list (K := K) (a := l) (xs := (sq m).map V.int) (fun i H' => Same H2 H' ∧ H' D = some (.lst ((((sq m).take i).map (orv (ssum ps) m t)).map V.int))) ⟨same_upd hD, upd_same⟩ (fun i H' _ hp => SqL.of (hp.1 _ _ hl)) (fun i x H' hx hp => ?_) (fun H' hp => ?_)⟩
    · obtain ⟨sm, hd⟩ := hp
      have hi : i < (sq m).length := by
        have z := (List.getElem?_eq_some_iff.mp hx).1
        rw [List.length_map] at z
        exact z
      have e : x = .int (sq m)[i] := by
        rw [List.getElem?_map, List.getElem?_eq_getElem hi] at hx
        exact (Option.some.inj hx).symm
      subst e
      have b1 := Z.pos _ (List.getElem_mem hi)
      have b2 := Z.lt _ (List.getElem_mem hi)
      refine ⟨rfl, .int (t : Int), rfl, .int (sq m)[i], rfl, t, (sq m)[i], rfl, rfl, .inl ⟨by omega, by omega⟩, .int (ssum ps), rfl, .int (sq m)[i], rfl, (sq m)[i], 1, rfl, rfl, (sq m)[i] - 1, 24, rfl, rfl, ⟨by decide, by decide⟩, ssum ps, ((sq m)[i] - 1) / 24, rfl, rfl, .inr ⟨by omega, by omega⟩,
        (t : Int) * (sq m)[i], ssum ps * (((sq m)[i] - 1) / 24), rfl, rfl, .int (m : Int), rfl, _, (m : Int), rfl, rfl, (by show (0 : Int) < (m : Int); omega), _, hd, ?_, ?_, ?_⟩
      · rw [List.length_map, List.length_map, List.length_take]
        have := Z.len
        exact small (by omega)
      · exact same_updT sm hD
      · rw [upd_same, List.take_add_one, List.getElem?_eq_getElem hi, List.map_append, List.map_append] <;> rfl
    · obtain ⟨sm, hd⟩ := hp
      rw [List.length_map, List.take_length] at hd
      refine ⟨D, orbRaw (ssum ps) m t, rfl, SqL.of hd, Nat.le_trans (orb_len m1 m2) (by decide), fun p n np hn => ?_⟩
      have hn64 : n < 64 := by
        have z := hn (orbRaw (ssum ps) m t) fun k hk => hk
        have z2 := orb_len (S := ssum ps) (t := (t : Int)) m1 m2
        omega
      refine ⟨p, _, n, rfl, upd_same, hn64, fun ns p2 hs hm _ np2 => ?_⟩
      have e : ns = orb (ssum ps) m t := norm_eq hs fun x => (hm x).trans decide_eq_true_iff
      subst e
      have sm1 : Same H (upd H' p (SetO w p (fun j => decide (j ∈ orbRaw (ssum ps) m t)) n)) := (s1.trans (s2.trans sm)).trans (same_upd np)
      exact q _ p2 (sm1.trans (same_upd np2)) (sm1.free np2) upd_same
def spLOrbit : Sp := fun vs H Q _ => ∃ (a sqa : Addr) (ps : List (Int × Int)) (m t : Nat), vs = [.ref a, .int (m : Int), .int (t : Int), .ref sqa] ∧ PrAt H a ps ∧ Good ps ∧ 1 ≤ m ∧ m ≤ 30 ∧ t < m ∧ H sqa = some (.lst ((sq m).map V.int)) ∧ NewL H (orb (ssum ps) m t) Q
theorem scLOrbit : FnScope ["_law_product_here", "_law_m", "_law_t", "_law_squares_here", "_law_found", "_law_s"] ["_law_product_here", "_law_m", "_law_t", "_law_squares_here"] (defScope sLOrbit) := ⟨rfl, rfl, rfl, by decide +kernel, rfl, by decide +kernel, by decide +kernel⟩
theorem ok_lorbit {f k : Addr} {fd kd : FuncData} (F : Fun K "_law_orbit" "_law_orbit" sLOrbit f fd) (FS : Fun K "_law_sum" "_law_sum" sLSum k kd) (bS : Binds K kd ["_law_product_here"] []) (mS : mg "_law_sum" = some (.ref k)) (T : Bl mg) :
    FnOk P w K mg base CX0 2 f fd ["_law_product_here", "_law_m", "_law_t", "_law_squares_here"] spLOrbit := by
  have GS : FnOk P w K mg base CX0 1 k kd ["_law_product_here"] spSum := ok_lsum FS T
  refine F.ok scLOrbit (fun vs H Q E h => ?_) (fun cdv A outer s H vs Q E hr h => ?_)
  · obtain ⟨a, sqa, ps, m, t, rfl, _⟩ := h
    rfl
  · obtain ⟨a, sqa, ps, m, t, rfl, hP, hG, m1, m2, tm, hsq, q⟩ := h
    have hu := hu_of hr
    have Z := sq_is m1 m2
    refine ⟨_, pss_cons (ps_set (i := 4) scLOrbit.nd rfl (Or.inl rfl) pe_dnewK)
      (pss_cons (ps_for PassesOwn.never rfl (pi_list (pv 3)) (pg_name (i := 5) scLOrbit.nd rfl (Or.inl rfl))
        (pss_one (ps_dput hu (pv 4) (pe_op op_mod (pe_op op_add (pe_op op_mul (pv 2) (pv 5)) (pe_op op_mul (pe_call GS hr (by rfl) mS FS.kp bS .nil pass0 (pa_cons (pv 0) pa_nil)) (pe_op op_fdiv (pe_op op_sub (pv 5) pe_int) pe_int))) (pv 1)) pe_bl rfl)))
      (pss_one (ps_ret (pe_callB cr_sortedI (by rfl) T.sorted boot_sorted (pa_cons (pe_callTy (call_list_dK rfl) (by rfl) T.list boot_list (pa_cons (pv 4) pa_nil)) pa_nil))))), ?_⟩
    intro d nd
    have nsd : sqa ≠ d := ne_of_none hsq nd
    refine ⟨.ref sqa, rfl, sqa, rfl, ⟨_, SqL.of (by rw [upd_ne nsd]; exact hsq)⟩, for_list (K := K) (a := sqa) (xs := (sq m).map V.int)
      (fun i σ H' => ∃ (v : Option V) (ks : List Int), σ = [some (.ref a), some (.int (m : Int)), some (.int (t : Int)), some (.ref sqa), some (.ref d), v] ∧ Same H H' ∧ H' d = some (.dK (ks.map mkT)) ∧ ks.Nodup ∧ ks.length ≤ i ∧ ∀ j, j ∈ ks ↔ j ∈ ((sq m).take i).map (orv (ssum ps) m t))
      ⟨none, [], rfl, same_upd nd, upd_same, List.nodup_nil, Nat.le_refl _, fun j => by simp⟩ (fun i σ H' _ hp => ?_) (fun i x σ H' hx hp => ?_) (fun σ H' hp => ?_)⟩
    · obtain ⟨v, ks, rfl, sm, _⟩ := hp
      exact SqL.of (sm _ _ hsq)
    · obtain ⟨v, ks, rfl, sm, hd, nk, lk, mk⟩ := hp
      have hi : i < (sq m).length := by
        have z := (List.getElem?_eq_some_iff.mp hx).1
        rw [List.length_map] at z
        exact z
      have e : x = .int (sq m)[i] := by
        rw [List.getElem?_map, List.getElem?_eq_getElem hi] at hx
        exact (Option.some.inj hx).symm
      subst e
      have b1 := Z.pos _ (List.getElem_mem hi)
      have b2 := Z.lt _ (List.getElem_mem hi)
      refine ⟨.ref d, rfl, .int (t : Int), rfl, .int (sq m)[i], rfl, t, (sq m)[i], rfl, rfl, .inl ⟨by omega, by omega⟩, .ref a, rfl, a, ps, rfl, hP.same sm, hG, fun H2 s2 => ?_⟩
      have hd2 := s2 _ _ hd
      have hz := Z.len
      refine ⟨.int (sq m)[i], rfl, (sq m)[i], 1, rfl, rfl, (sq m)[i] - 1, 24, rfl, rfl, ⟨by decide, by decide⟩, ssum ps, ((sq m)[i] - 1) / 24, rfl, rfl, .inr ⟨by omega, by omega⟩,
        (t : Int) * (sq m)[i], ssum ps * (((sq m)[i] - 1) / 24), rfl, rfl, .int (m : Int), rfl, _, (m : Int), rfl, rfl, (by show (0 : Int) < (m : Int); omega), d, _, rfl,
        DPut.k (k := Sum.inl (orv (ssum ps) m t (sq m)[i])) hd2 (by rw [List.length_map]; exact small (by omega)), ?_⟩
      refine ⟨_, addK ks (orv (ssum ps) m t (sq m)[i]), rfl, same_updT (sm.trans s2) nd, ?_, nodup_addK nk _, Nat.le_trans (len_addK _ _) (by omega), fun j => ?_⟩
      · rw [upd_same, put_mkT]
      · rw [mem_addK, mk j, List.take_add_one, List.getElem?_eq_getElem hi, List.map_append, List.mem_append]
        simp
    · obtain ⟨v, ks, rfl, sm, hd, nk, lk, mk⟩ := hp
      refine ⟨.ref d, rfl, d, _, rfl, hd, fun l nl => ?_⟩
      refine ⟨l, ks, rfl, SqL.of (by rw [upd_same, keys_mkT]), fun ns p pr srt np => ?_⟩
      have e : ns = orb (ssum ps) m t := (norm_of_perm pr srt nk).trans (norm_congr fun j => by
        rw [mk j, List.length_map, List.take_length]
        exact Iff.rfl)
      subst e
      have sm1 := sm.trans (same_upd (o := .lst ((ks.map mkT).map fun kv => kV kv.1)) nl)
      exact q _ p (sm1.trans (same_upd np)) (sm1.free np) upd_same
end
end K61

/-! ## K61D -/
namespace K61
open PySem PySem.Spec PyProof.Rows L2

/-! ### the program's defs, as they stand behind the top -/
def Has (K : PySem.W.Frag) (mg : Str → Option Value) (x : Str) (st : Stmt) (ps : List Str) : Prop := ∃ (f : Addr) (fd : FuncData), Fun K x x st f fd ∧ Binds K fd ps [] ∧ mg x = some (.ref f)
structure Defs (K : PySem.W.Frag) (mg : Str → Option Value) : Prop where
  isint : Has K mg "is_integer" sIsInt ["value"]
  iscount : Has K mg "is_count" sIsCount ["value"]
  gcd : Has K mg "greatest_common" sGcd ["first", "second"]
  pair : Has K mg "is_power_pair" sPair ["value"]
  isprod : Has K mg "is_product_value" sIsProd ["value"]
  wantprod : Has K mg "want_product" sWantProd ["value"]
  stepsum : Has K mg "step_sum" sStepSum ["product"]
  sqby : Has K mg "squares_by" sSqBy ["m"]
  orbitof : Has K mg "orbit_of" sOrbitOf ["product", "m", "t"]
  orbitsof : Has K mg "orbits_of_rests" sOrbitsOf ["product", "m"]
  wantstep : Has K mg "want_step" sWantStep ["m"]
  wantsec : Has K mg "want_section" sWantSec ["product", "m", "t"]

/-! ### small lists -/
theorem ins_len (a : Int) : ∀ l : List Int, (ins a l).length ≤ l.length + 1
  | [] => Nat.le_refl _
  | b :: r => by
    unfold ins
    split
    · simp
    · split
      · simp
      · have := ins_len a r
        simp
        omega
theorem norm_len : ∀ l : List Int, (norm l).length ≤ l.length
  | [] => Nat.le_refl _
  | a :: r => by
    have h1 := ins_len a (norm r)
    have h2 := norm_len r
    show (ins a (norm r)).length ≤ r.length + 1
    omega
theorem orb_len40 {S : Int} {m : Nat} {t : Int} (h1 : 1 ≤ m) (h2 : m ≤ 30) : (orb S m t).length ≤ 40 := Nat.le_trans (norm_len _) (orb_len h1 h2)
theorem foldK_len : ∀ (L ks : List Int), (L.foldl addK ks).length ≤ ks.length + L.length
  | [], _ => Nat.le_refl _
  | a :: r, ks => by
    have h1 := foldK_len r (addK ks a)
    have h2 := len_addK ks a
    rw [List.foldl_cons, List.length_cons]
    omega
theorem fnd_len (S : Int) (m : Nat) : ∀ i, (fnd S m i).length ≤ i
  | 0 => Nat.le_refl _
  | i + 1 => by
    have h := fnd_len S m i
    unfold fnd
    split
    · omega
    · rw [List.length_append, List.length_singleton]
      omega
theorem LLAt.mem {H0 H : Hp} {as : List Addr} {L : List (List Int)} (h : LLAt H0 H as L) {x : Addr} (hx : x ∈ as) : ∃ l : List Int, H0 x = none ∧ H x = some (.lst (l.map V.int)) := by
  obtain ⟨i, hi, e⟩ := List.getElem_of_mem hx
  have hl : i < L.length := by rw [← h.1]; exact hi
  exact ⟨L[i], h.2 i x L[i] (by rw [List.getElem?_eq_getElem hi, e]) (List.getElem?_eq_getElem hl)⟩
theorem LLAt.step {H0 H H' : Hp} {as : List Addr} {L : List (List Int)} (h : LLAt H0 H as L) (k : ∀ x ∈ as, H x ≠ none → H' x = H x) : LLAt H0 H' as L :=
  ⟨h.1, fun i x l e1 e2 => by
    obtain ⟨a, b⟩ := h.2 i x l e1 e2
    refine ⟨a, ?_⟩
    rw [k x (List.mem_of_getElem? e1) (by rw [b]; exact fun z => nomatch z)]
    exact b⟩
theorem LLAt.snoc {H0 H : Hp} {as : List Addr} {L : List (List Int)} {x : Addr} {l : List Int} (h : LLAt H0 H as L) (h0 : H0 x = none) (hx : H x = some (.lst (l.map V.int))) : LLAt H0 H (as ++ [x]) (L ++ [l]) := by
  refine ⟨by rw [List.length_append, List.length_append, h.1] <;> rfl, fun i y r e1 e2 => ?_⟩
  rw [List.getElem?_append] at e1 e2
  rw [h.1] at e1
  split at e1
  · next hi =>
    rw [if_pos hi] at e2
    exact h.2 i y r e1 e2
  · next hi =>
    rw [if_neg hi] at e2
    have hj : i - L.length = 0 := by
      have z := (List.getElem?_eq_some_iff.mp e1).1
      rw [List.length_singleton] at z
      omega
    rw [hj] at e1 e2
    cases e1
    cases e2
    exact ⟨h0, hx⟩
section
variable {P : Program} {w : World} {K : PySem.W.Frag} {mg : Str → Option Value} {base : Heap}
theorem okD_isint (D : Defs K mg) (T : Bl mg) : ∃ (f : Addr) (fd : FuncData), Fun K "is_integer" "is_integer" sIsInt f fd ∧ Binds K fd ["value"] [] ∧ mg "is_integer" = some (.ref f) ∧ FnOk P w K mg base CX0 1 f fd ["value"] spInt := by
  obtain ⟨f, fd, F, b, m⟩ := D.isint
  exact ⟨f, fd, F, b, m, ok_isint F T⟩
theorem okD_iscount (D : Defs K mg) (T : Bl mg) : ∃ (f : Addr) (fd : FuncData), Fun K "is_count" "is_count" sIsCount f fd ∧ Binds K fd ["value"] [] ∧ mg "is_count" = some (.ref f) ∧ FnOk P w K mg base CX0 2 f fd ["value"] spCount := by
  obtain ⟨f, fd, F, b, m⟩ := D.isint
  obtain ⟨f2, fd2, F2, b2, m2⟩ := D.iscount
  exact ⟨f2, fd2, F2, b2, m2, ok_iscount F2 F b m T⟩
theorem okD_wantprod (D : Defs K mg) (T : Bl mg) (C : Cn mg) : ∃ (f : Addr) (fd : FuncData), Fun K "want_product" "want_product" sWantProd f fd ∧ Binds K fd ["value"] [] ∧ mg "want_product" = some (.ref f) ∧ FnOk P w K mg base CX0 4 f fd ["value"] spWantProd := by
  obtain ⟨f, fd, F, b, m⟩ := D.isint
  obtain ⟨f2, fd2, F2, b2, m2⟩ := D.pair
  obtain ⟨f3, fd3, F3, b3, m3⟩ := D.isprod
  obtain ⟨f4, fd4, F4, b4, m4⟩ := D.wantprod
  exact ⟨f4, fd4, F4, b4, m4, ok_wantprod F4 ⟨F, b, m, F2, b2, m2, F3, b3, m3⟩ T C⟩
theorem okD_sqby (D : Defs K mg) (T : Bl mg) : ∃ (f : Addr) (fd : FuncData), Fun K "squares_by" "squares_by" sSqBy f fd ∧ Binds K fd ["m"] [] ∧ mg "squares_by" = some (.ref f) ∧ FnOk P w K mg base CX0 2 f fd ["m"] spSq := by
  obtain ⟨f, fd, F, b, m⟩ := D.gcd
  obtain ⟨f2, fd2, F2, b2, m2⟩ := D.sqby
  exact ⟨f2, fd2, F2, b2, m2, ok_sqby F2 F b m T⟩
theorem okD_orbitof (D : Defs K mg) (T : Bl mg) : ∃ (f : Addr) (fd : FuncData), Fun K "orbit_of" "orbit_of" sOrbitOf f fd ∧ Binds K fd ["product", "m", "t"] [] ∧ mg "orbit_of" = some (.ref f) ∧ FnOk P w K mg base CX0 3 f fd ["product", "m", "t"] spOrbit := by
  obtain ⟨f, fd, F, b, m⟩ := D.gcd
  obtain ⟨f2, fd2, F2, b2, m2⟩ := D.sqby
  obtain ⟨f3, fd3, F3, b3, m3⟩ := D.stepsum
  obtain ⟨f4, fd4, F4, b4, m4⟩ := D.orbitof
  exact ⟨f4, fd4, F4, b4, m4, ok_orbitof F4 F b m F2 b2 m2 F3 b3 m3 T⟩

/-! ### want_step, want_section -/
theorem scWantStep : FnScope ["m"] ["m"] (defScope sWantStep) := ⟨rfl, rfl, rfl, by decide +kernel, rfl, by decide +kernel, by decide +kernel⟩
theorem ok_wantstep {f : Addr} {fd : FuncData} (F : Fun K "want_step" "want_step" sWantStep f fd) (D : Defs K mg) (T : Bl mg) (C : Cn mg) : FnOk P w K mg base CX0 3 f fd ["m"] spStep := by
  obtain ⟨g, gd, FC, bC, mC, GC⟩ := okD_iscount (P := P) (w := w) (base := base) D T
  obtain ⟨uS, mS, rS⟩ := C.orbits
  refine F.ok scWantStep (fun vs H Q E h => ?_) (fun cdv A outer s H vs Q E hr h => ?_)
  · obtain ⟨m, rfl, _⟩ := h
    rfl
  · obtain ⟨m, rfl, m1, m2, q⟩ := h
    refine ⟨_, pss_cons (ps_if (PW.pt (pw_or (pt_not (pt_val (pe_call GC hr (by rfl) mC FC.kp bC .nil pass0 (pa_cons (pv 0) pa_nil)))) (pw_or1 (pt_not (pt_chain op_le op_le pe_int (pv 0) (pe_glob (by rfl) mS rS)))))) (pss_one ps_never) pss_nil) (pss_one (ps_ret (pv 0))), ?_⟩
    refine ⟨.int (m : Int), rfl, (m : Int), rfl, by omega, true, rfl, iteF ?_⟩
    refine ⟨.int (m : Int), rfl, 1, (m : Int), rfl, rfl, true, congrArg V.bl (decide_eq_true (by omega)), iteT ⟨(m : Int), 30, rfl, rfl, true, congrArg V.bl (decide_eq_true (by omega)), iteF ?_⟩⟩
    exact ⟨_, rfl, q⟩
theorem okD_wantstep (D : Defs K mg) (T : Bl mg) (C : Cn mg) : ∃ (f : Addr) (fd : FuncData), Fun K "want_step" "want_step" sWantStep f fd ∧ Binds K fd ["m"] [] ∧ mg "want_step" = some (.ref f) ∧ FnOk P w K mg base CX0 3 f fd ["m"] spStep := by
  obtain ⟨f, fd, F, b, m⟩ := D.wantstep
  exact ⟨f, fd, F, b, m, ok_wantstep F D T C⟩
theorem scWantSec : FnScope ["product", "m", "t"] ["product", "m", "t"] (defScope sWantSec) := ⟨rfl, rfl, rfl, by decide +kernel, rfl, by decide +kernel, by decide +kernel⟩
theorem ok_wantsec {f : Addr} {fd : FuncData} (F : Fun K "want_section" "want_section" sWantSec f fd) (D : Defs K mg) (T : Bl mg) (C : Cn mg) : FnOk P w K mg base CX0 5 f fd ["product", "m", "t"] spSection := by
  obtain ⟨g, gd, FC, bC, mC, GC⟩ := okD_iscount (P := P) (w := w) (base := base) D T
  obtain ⟨h, hd, FP, bP, mP, GP⟩ := okD_wantprod (P := P) (w := w) (base := base) D T C
  obtain ⟨k, kd, FS, bS, mS, GS⟩ := okD_wantstep (P := P) (w := w) (base := base) D T C
  refine F.ok scWantSec (fun vs H Q E h => ?_) (fun cdv A outer s H vs Q E hr h => ?_)
  · obtain ⟨a, ps, m, t, rfl, _⟩ := h
    rfl
  · obtain ⟨a, ps, m, t, rfl, hP, hG, m1, m2, tm, q⟩ := h
    refine ⟨_, pss_cons (ps_expr (pe_call GP hr (by rfl) mP FP.kp bP .nil pass0 (pa_cons (pv 0) pa_nil)))
      (pss_cons (ps_expr (pe_call GS (hr.mono (by decide)) (by rfl) mS FS.kp bS .nil pass0 (pa_cons (pv 1) pa_nil)))
      (pss_one (ps_if (PW.pt (pw_or (pt_not (pt_val (pe_call GC (hr.mono (by decide)) (by rfl) mC FC.kp bC .nil pass0 (pa_cons (pv 2) pa_nil)))) (pw_or1 (pt_cmpR op_ge (pv 2) (pv 1) (nomark _))))) (pss_one ps_never) pss_nil))), ?_⟩
    refine ⟨.ref a, rfl, a, ps, rfl, hP, hG, fun H1 s1 => ?_⟩
    refine ⟨.int (m : Int), rfl, m, rfl, m1, m2, ?_⟩
    refine ⟨.int (t : Int), rfl, (t : Int), rfl, by omega, true, rfl, iteF ?_⟩
    refine ⟨.int (t : Int), rfl, .int (m : Int), rfl, (t : Int), (m : Int), rfl, rfl, _, rfl, ?_⟩
    rw [decide_eq_false (show ¬ (m : Int) ≤ (t : Int) by omega)]
    refine iteF ?_
    exact q H1 s1
theorem okD_wantsec (D : Defs K mg) (T : Bl mg) (C : Cn mg) : ∃ (f : Addr) (fd : FuncData), Fun K "want_section" "want_section" sWantSec f fd ∧ Binds K fd ["product", "m", "t"] [] ∧ mg "want_section" = some (.ref f) ∧ FnOk P w K mg base CX0 5 f fd ["product", "m", "t"] spSection := by
  obtain ⟨f, fd, F, b, m⟩ := D.wantsec
  exact ⟨f, fd, F, b, m, ok_wantsec F D T C⟩

/-! ### squares_of, orbit -/
theorem scSqOf : FnScope ["m"] ["m"] (defScope sSqOf) := ⟨rfl, rfl, rfl, by decide +kernel, rfl, by decide +kernel, by decide +kernel⟩
theorem ok_sqof {f : Addr} {fd : FuncData} (F : Fun K "squares_of" "squares_of" sSqOf f fd) (D : Defs K mg) (T : Bl mg) (C : Cn mg) : FnOk P w K mg base CX0 4 f fd ["m"] spSq := by
  obtain ⟨h, hd, FQ, bQ, mQ, GQ⟩ := okD_sqby (P := P) (w := w) (base := base) D T
  obtain ⟨k, kd, FS, bS, mS, GS⟩ := okD_wantstep (P := P) (w := w) (base := base) D T C
  refine F.ok scSqOf (fun vs H Q E h => ?_) (fun cdv A outer s H vs Q E hr h => ?_)
  · obtain ⟨m, rfl, _⟩ := h
    rfl
  · obtain ⟨m, rfl, m1, m2, q⟩ := h
    refine ⟨_, pss_one (ps_ret (pe_call GQ (hr.mono (by decide)) (by rfl) mQ FQ.kp bQ .nil pass0 (pa_cons (pe_call GS hr (by rfl) mS FS.kp bS .nil pass0 (pa_cons (pv 0) pa_nil)) pa_nil))), ?_⟩
    exact ⟨.int (m : Int), rfl, m, rfl, m1, m2, m, rfl, m1, m2, q⟩
theorem scOrbit : FnScope ["product", "m", "t"] ["product", "m", "t"] (defScope sOrbit) := ⟨rfl, rfl, rfl, by decide +kernel, rfl, by decide +kernel, by decide +kernel⟩
theorem NewL.pre {H H1 : Hp} {L : List Int} {Q : VK} (s : Same H H1) (q : NewL H L Q) : NewL H1 L Q := fun H' p s' n e => q H' p (s.trans s') (s.free n) e
theorem ok_orbit {f : Addr} {fd : FuncData} (F : Fun K "orbit" "orbit" sOrbit f fd) (D : Defs K mg) (T : Bl mg) (C : Cn mg) : FnOk P w K mg base CX0 6 f fd ["product", "m", "t"] spOrbit := by
  obtain ⟨h, hd, FQ, bQ, mQ, GQ⟩ := okD_wantsec (P := P) (w := w) (base := base) D T C
  obtain ⟨k, kd, FS, bS, mS, GS⟩ := okD_orbitof (P := P) (w := w) (base := base) D T
  refine F.ok scOrbit (fun vs H Q E h => ?_) (fun cdv A outer s H vs Q E hr h => ?_)
  · obtain ⟨a, ps, m, t, rfl, _⟩ := h
    rfl
  · obtain ⟨a, ps, m, t, rfl, hP, hG, m1, m2, tm, q⟩ := h
    refine ⟨_, pss_cons (ps_expr (pe_call GQ hr (by rfl) mQ FQ.kp bQ .nil pass0 (pa_cons (pv 0) (pa_cons (pv 1) (pa_cons (pv 2) pa_nil)))))
      (pss_one (ps_ret (pe_call GS (hr.mono (by decide)) (by rfl) mS FS.kp bS .nil pass0 (pa_cons (pv 0) (pa_cons (pv 1) (pa_cons (pv 2) pa_nil)))))), ?_⟩
    refine ⟨.ref a, rfl, .int (m : Int), rfl, .int (t : Int), rfl, a, ps, m, t, rfl, hP, hG, m1, m2, tm, fun H1 s1 => ?_⟩
    exact ⟨.ref a, rfl, .int (m : Int), rfl, .int (t : Int), rfl, a, ps, m, t, rfl, hP.same s1, hG, m1, m2, tm, q.pre s1⟩

/-! ### all orbits -/
theorem scOrbitsOf : FnScope ["product", "m", "found", "met", "t", "late", "rest"] ["product", "m"] (defScope sOrbitsOf) := ⟨rfl, rfl, rfl, by decide +kernel, rfl, by decide +kernel, by decide +kernel⟩
theorem ok_orbitsof {f : Addr} {fd : FuncData} (F : Fun K "orbits_of_rests" "orbits_of_rests" sOrbitsOf f fd) (D : Defs K mg) (T : Bl mg) : FnOk P w K mg base CX0 4 f fd ["product", "m"] spOrbits := by
  obtain ⟨g, gd, FO, bO, mO, GO⟩ := okD_orbitof (P := P) (w := w) (base := base) D T
  refine F.ok scOrbitsOf (fun vs H Q E h => ?_) (fun cdv A outer s H vs Q E hr h => ?_)
  · obtain ⟨a, ps, m, rfl, _⟩ := h
    rfl
  · obtain ⟨a, ps, m, rfl, hP, hG, m1, m2, q⟩ := h
    have hu := hu_of hr
    refine ⟨_, pss_cons (ps_par (i := 2) (j := 3) rfl scOrbitsOf.nd rfl rfl (by decide) rfl rfl (pa_cons (pe_lst pa_nil) (pa_cons pe_dnewK pa_nil)) (by rfl))
      (pss_cons (ps_for PassesOwn.never rfl (pi_range1 (by rfl) T.range (pa_cons (pv 1) pa_nil)) (pg_name (i := 4) scOrbitsOf.nd rfl (Or.inl rfl))
        (pss_one (ps_if (pt_cmp (pc_dnotin hu (pv 4) (pv 3)))
          (pss_cons (ps_set (i := 5) scOrbitsOf.nd rfl (Or.inl rfl) (pe_call GO hr (by rfl) mO FO.kp bO .nil pass0 (pa_cons (pv 0) (pa_cons (pv 1) (pa_cons (pv 4) pa_nil)))))
          (pss_cons (ps_expr (pe_bm PySem.F.plainAttrs_list PySem.F.slot_list_append PySem.F.type_list_append mt_append (pv 2) (pa_cons (pv 5) pa_nil)))
          (pss_one (ps_expr (pe_bm PySem.F.plainAttrs_dict PySem.F.slot_dict_update PySem.F.type_dict_update mt_dupdate (pv 3) (pa_cons (pe_callTy (call_dictP rfl) (by rfl) T.dict boot_dict (pa_cons
            (pe_lc (own := [("rest", 6)]) (g := gName 6) (tt := tYes) rfl scOrbitsOf.nd (pi_list (pv 5)) (blkOk_by (N := ["product", "m", "found", "met", "t", "late", "rest"]) (sc := defScope sOrbitsOf) (by decide +kernel))
              (fun _ _ _ _ _ => pg_name (i := 6) scOrbitsOf.nd rfl (Or.inl rfl)) (fun _ _ _ _ _ => pts_nil) (fun _ _ _ _ _ => pe_tup (pa_cons (pv 6) (pa_cons pe_bl pa_nil)))) pa_nil)) pa_nil)))))) pss_nil)))
      (pss_one (ps_ret (pv 2)))), ?_⟩
    refine ⟨Nat.zero_le _, fun fo nfo => ?_⟩
    intro me nme
    have nfm : fo ≠ me := fun e => by
      rw [← e, upd_same] at nme
      cases nme
    have nme0 : H me = none := by
      rw [upd_ne nfm.symm] at nme
      exact nme
    refine ⟨_, _, rfl, ?_⟩
    refine ⟨.int (m : Int), rfl, (m : Int), rfl, by omega, by omega, ?_⟩
    rw [show ((m : Int)).toNat = m by omega]
    refine for_range (lo := 0) (n := m) (fun i σ H' => ∃ (v4 v5 : Option V) (as : List Addr) (ks : List Int), σ = [some (.ref a), some (.int (m : Int)), some (.ref fo), some (.ref me), v4, v5, none] ∧ Same H H' ∧ H' fo = some (.lst (as.map V.ref)) ∧ H' me = some (.dK (ks.map mkT)) ∧
        (∀ j, j ∈ ks ↔ j ∈ (fnd (ssum ps) m i).flatten) ∧ ks.length ≤ 40 * i ∧ as.Nodup ∧ fo ∉ as ∧ LLAt H H' as (fnd (ssum ps) m i))
      ⟨none, none, [], [], rfl, same_updT (same_upd nfo) nme0, by rw [upd_ne nfm, upd_same] <;> rfl, upd_same, fun j => by simp [fnd], Nat.le_refl _, List.nodup_nil, by simp, rfl, fun i x l e => by simp at e⟩ (fun i σ H' hi hp => ?_) (fun σ H' hp => ?_)
    · obtain ⟨v4, v5, as, ks, rfl, sm, hfo, hme, hks, lks, nas, foas, hLL⟩ := hp
      rw [Int.zero_add]
      refine ⟨.int (i : Int), rfl, .ref me, rfl, me, _, rfl, DGet.k (k := Sum.inl (i : Int)) hme, _, rfl, ?_⟩
      rw [val_mkT]
      by_cases hik : (i : Int) ∈ ks
      · rw [if_pos hik]
        refine iteF ?_
        have ef : fnd (ssum ps) m (i + 1) = fnd (ssum ps) m i := if_pos ((hks _).mp hik)
        refine ⟨_, _, as, ks, rfl, sm, hfo, hme, ?_, by omega, nas, foas, ?_⟩
        · rw [ef]
          exact hks
        · rw [ef]
          exact hLL
      · rw [if_neg hik]
        refine iteT ?_
        have ef : fnd (ssum ps) m (i + 1) = fnd (ssum ps) m i ++ [orb (ssum ps) m (i : Int)] := if_neg fun z => hik ((hks _).mpr z)
        have l40 : (orb (ssum ps) m (i : Int)).length ≤ 40 := orb_len40 m1 (by omega)
        generalize hL : orb (ssum ps) m (i : Int) = L at ef l40
        refine ⟨.ref a, rfl, .int (m : Int), rfl, .int (i : Int), rfl, a, ps, m, i, rfl, hP.same sm, hG, m1, by omega, hi, fun H2 l s2 nl hl => ?_⟩
        rw [hL] at hl
        have hfo2 := s2 _ _ hfo
        have hme2 := s2 _ _ hme
        have nlas : l ∉ as := fun z => by
          obtain ⟨r, _, e⟩ := hLL.mem z
          rw [nl] at e
          cases e
        have nlfo : l ≠ fo := fun e => by
          rw [e, hfo] at nl
          cases nl
        have has : as.length ≤ i := by
          rw [hLL.1]
          exact fnd_len _ _ _
        -- found.append(late)
        refine ⟨.ref fo, rfl, .inl ⟨rfl, _, SqL.of hfo2⟩, .ref l, rfl, fo, _, _, rfl, rfl, hfo2, (by rw [List.length_map]; exact small (by omega)), ?_⟩
        generalize hH3 : upd H2 fo (.lst (as.map V.ref ++ [V.ref l])) = H3
        have hfo3 : H3 fo = some (.lst ((as ++ [l]).map V.ref)) := by
          rw [← hH3, upd_same, List.map_append] <;> rfl
        have k3 : ∀ b, b ≠ fo → H3 b = H2 b := fun b hb => by
          rw [← hH3, upd_ne hb]
        have hme3 : H3 me = some (.dK (ks.map mkT)) := by
          rw [k3 me nfm.symm]
          exact hme2
        have hl3 : H3 l = some (.lst (L.map V.int)) := by
          rw [k3 l nlfo]
          exact hl
        -- met.update(dict([..]))
        refine ⟨.ref me, rfl, .inr (.inr (.inl ⟨rfl, .inl ⟨_, hme3⟩⟩)), ?_⟩
        refine ⟨.ref l, rfl, l, rfl, ⟨_, SqL.of hl3⟩, fun C0 nC => lc_list (K := K) (a := l) (xs := L.map V.int) (fun j H' => Same H3 H' ∧ ∃ pp : List Addr, H' C0 = some (.lst (pp.map V.ref)) ∧ pp.length = j ∧ Paired (fun p (kv : L2.Key × V) => H' p = some (.tup [kV kv.1, kv.2])) pp ((L.take j).map mkT))
          ⟨same_upd nC, [], upd_same, rfl, .nil⟩ (fun j H' _ hp => SqL.of (hp.1 _ _ hl3)) (fun j x H4 hx hp => ?_) (fun H4 hp => ?_)⟩
        · obtain ⟨s4, pp, hC, lpp, pr⟩ := hp
          have hj : j < L.length := by
            have z := (List.getElem?_eq_some_iff.mp hx).1
            rw [List.length_map] at z
            exact z
          have e : x = .int L[j] := by
            rw [List.getElem?_map, List.getElem?_eq_getElem hj] at hx
            exact (Option.some.inj hx).symm
          subst e
          refine ⟨rfl, .int L[j], rfl, (by show 2 ≤ sizeLine; decide), fun p np => ?_⟩
          have nCp : C0 ≠ p := ne_of_none hC np
          have hC5 : (upd H4 p (.tup [.int L[j], .bl true])) C0 = some (.lst (pp.map V.ref)) := by
            rw [upd_ne nCp]
            exact hC
          refine ⟨_, hC5, (by rw [List.length_map]; exact small (by omega)), same_updT (s4.trans (same_upd np)) nC, pp ++ [p], (by rw [upd_same, List.map_append] <;> rfl), (by rw [List.length_append, lpp] <;> rfl), ?_⟩
          rw [List.take_add_one, List.getElem?_eq_getElem hj, List.map_append]
          refine Paired.snoc (Paired.mapP pr fun q kv z => ?_) ?_
          · have n1 : q ≠ C0 := ne_of z hC (by intro t; cases t)
            rw [upd_ne n1, upd_ne (ne_of_none z np)]
            exact z
          · show (upd (upd H4 p (.tup [.int L[j], .bl true])) C0 _) p = some (.tup [.int L[j], .bl true])
            rw [upd_ne nCp.symm, upd_same]
        · obtain ⟨s4, pp, hC, lpp, pr⟩ := hp
          rw [List.length_map, List.take_length] at pr
          refine ⟨C0, pp, L.map mkT, rfl, SqL.of hC, Paired.mapP pr (fun _ _ z => SqT.of z), fun e ne => ?_⟩
          have hme4 := s4 _ _ hme3
          have nee : me ≠ e := ne_of_none hme4 ne
          have em : mergeK [] (L.map mkT) = (L.foldl addK []).map mkT := merge_mkT L []
          rw [em]
          have lf := foldK_len L []
          rw [List.length_nil, Nat.zero_add] at lf
          refine ⟨me, e, ks.map mkT, (L.foldl addK []).map mkT, rfl, rfl, nee, (by rw [upd_ne nee]; exact hme4), upd_same, (by rw [List.length_map, List.length_map]; exact smallL (by omega)), ?_⟩
          rw [merge_mkT]
          have lf2 := foldK_len (L.foldl addK []) ks
          -- the next turn
          have k6 : ∀ b o, H3 b = some o → b ≠ me → (upd (upd H4 e (.dK ((L.foldl addK []).map mkT))) me (.dK (((L.foldl addK []).foldl addK ks).map mkT))) b = some o := fun b o hb nb => by
            have h4 := s4 _ _ hb
            rw [upd_ne nb, upd_ne (ne_of_none h4 ne)]
            exact h4
          refine ⟨_, _, as ++ [l], (L.foldl addK []).foldl addK ks, rfl, fun b o hb => ?_, k6 _ _ hfo3 nfm, upd_same, fun j => ?_, by omega, ?_, ?_, ?_⟩
          · have b1 : b ≠ fo := ne_of_none hb nfo
            have b2 : b ≠ me := ne_of_none hb nme0
            refine k6 b o ?_ b2
            rw [k3 b b1]
            exact s2 _ _ (sm _ _ hb)
          · rw [mem_foldK, mem_foldK, hks j, ef, List.flatten_append, List.mem_append]
            simp
          · exact List.nodup_append.mpr ⟨nas, by simp, fun x hx y hy e => by
              rw [List.mem_singleton] at hy
              subst hy
              subst e
              exact nlas hx⟩
          · rw [List.mem_append, List.mem_singleton]
            rintro (z | z)
            · exact foas z
            · exact nlfo z.symm
          · rw [ef]
            have base6 : ∀ x (r : List Int), H2 x = some (.lst (r.map V.int)) → x ≠ fo → (upd (upd H4 e (.dK ((L.foldl addK []).map mkT))) me (.dK (((L.foldl addK []).foldl addK ks).map mkT))) x = some (.lst (r.map V.int)) := fun x r h2 nx => by
              have n2 : x ≠ me := ne_of h2 hme2 (by intro t; cases t)
              refine k6 x _ ?_ n2
              rw [k3 x nx]
              exact h2
            refine LLAt.snoc ⟨hLL.1, fun j x r e1 e2 => ?_⟩ (sm.free nl) (base6 l L hl nlfo)
            obtain ⟨h0, hx⟩ := hLL.2 j x r e1 e2
            refine ⟨h0, base6 x r (s2 _ _ hx) fun z => ?_⟩
            subst z
            exact foas (List.mem_of_getElem? e1)
    · obtain ⟨v4, v5, as, ks, rfl, sm, hfo, hme, hks, lks, nas, foas, hLL⟩ := hp
      exact ⟨.ref fo, rfl, q H' fo as sm nfo hfo nas foas hLL⟩
theorem okD_orbitsof (D : Defs K mg) (T : Bl mg) : ∃ (f : Addr) (fd : FuncData), Fun K "orbits_of_rests" "orbits_of_rests" sOrbitsOf f fd ∧ Binds K fd ["product", "m"] [] ∧ mg "orbits_of_rests" = some (.ref f) ∧ FnOk P w K mg base CX0 4 f fd ["product", "m"] spOrbits := by
  obtain ⟨f, fd, F, b, m⟩ := D.orbitsof
  exact ⟨f, fd, F, b, m, ok_orbitsof F D T⟩
theorem scOrbits : FnScope ["product", "m"] ["product", "m"] (defScope sOrbits) := ⟨rfl, rfl, rfl, by decide +kernel, rfl, by decide +kernel, by decide +kernel⟩
theorem ok_orbits {f : Addr} {fd : FuncData} (F : Fun K "orbits" "orbits" sOrbits f fd) (D : Defs K mg) (T : Bl mg) (C : Cn mg) : FnOk P w K mg base CX0 5 f fd ["product", "m"] spOrbits := by
  obtain ⟨h, hd, FP, bP, mP, GP⟩ := okD_wantprod (P := P) (w := w) (base := base) D T C
  obtain ⟨k, kd, FS, bS, mS, GS⟩ := okD_wantstep (P := P) (w := w) (base := base) D T C
  obtain ⟨g, gd, FO, bO, mO, GO⟩ := okD_orbitsof (P := P) (w := w) (base := base) D T
  refine F.ok scOrbits (fun vs H Q E h => ?_) (fun cdv A outer s H vs Q E hr h => ?_)
  · obtain ⟨a, ps, m, rfl, _⟩ := h
    rfl
  · obtain ⟨a, ps, m, rfl, hP, hG, m1, m2, q⟩ := h
    refine ⟨_, pss_cons (ps_expr (pe_call GP hr (by rfl) mP FP.kp bP .nil pass0 (pa_cons (pv 0) pa_nil)))
      (pss_one (ps_ret (pe_call GO hr (by rfl) mO FO.kp bO .nil pass0 (pa_cons (pv 0) (pa_cons (pe_call GS (hr.mono (by decide)) (by rfl) mS FS.kp bS .nil pass0 (pa_cons (pv 1) pa_nil)) pa_nil))))), ?_⟩
    refine ⟨.ref a, rfl, a, ps, rfl, hP, hG, fun H1 s1 => ?_⟩
    refine ⟨.ref a, rfl, .int (m : Int), rfl, m, rfl, m1, by omega, a, ps, m, rfl, hP.same s1, hG, m1, m2, fun H' p as s' n e nd pas LL => ?_⟩
    exact q H' p as (s1.trans s') (s1.free n) e nd pas ⟨LL.1, fun i x l e1 e2 => ⟨s1.free (LL.2 i x l e1 e2).1, (LL.2 i x l e1 e2).2⟩⟩
end
end K61

/-! ## K61E -/
namespace K61
open PySem PySem.Spec PyProof.Rows L2

/-! ### the pot: two ints -/
def lcg (y : Int) : Int := (y * 39373 + 1367) % 2147483587
def lco (z : Int) : Int := z * z % 2147483563 / 17
def pwv (d6 d2 : Nat) : Int := (1 + (d6 : Int)) * (1 - 2 * (d2 : Int))
def PotAt (H : Hp) (p : Addr) : Prop := ∃ x y : Int, H p = some (.lst [.int x, .int y]) ∧ 0 ≤ x ∧ 0 ≤ y ∧ y < 2 ^ 32
theorem PotAt.same {H H' : Hp} {p : Addr} (h : PotAt H p) (s : Same H H') : PotAt H' p := by
  obtain ⟨x, y, e, r⟩ := h
  exact ⟨x, y, s _ _ e, r⟩
def spPot (K : PySem.W.Frag) : Sp := fun vs H Q _ => ∃ (a : Addr) (ns : List Int), vs = [.ref a, .int 0] ∧ SqL K H a (ns.map V.int) ∧ ∀ (H' : Hp) (p : Addr), Same H H' → H p = none → PotAt H' p → Q (.ref p) H'
def spDraw : Sp := fun vs H Q _ => ∃ (p : Addr) (many : Nat), vs = [.ref p, .int (many : Int)] ∧ 1 ≤ many ∧ many ≤ 1000 ∧ PotAt H p ∧ ∀ (H' : Hp) (d : Nat), d < many → Sb p H H' → PotAt H' p → Q (.int (d : Int)) H'
def spPick : Sp := fun vs H Q _ => ∃ (p l : Addr) (xs : List V), vs = [.ref p, .ref l] ∧ PotAt H p ∧ l ≠ p ∧ H l = some (.lst xs) ∧ 1 ≤ xs.length ∧ xs.length ≤ 1000 ∧ ∀ (H' : Hp) (v : V), v ∈ xs → Sb p H H' → PotAt H' p → Q v H'
def spLProd : Sp := fun vs H Q _ => ∃ p : Addr, vs = [.ref p] ∧ PotAt H p ∧ ∀ (H' : Hp) (a : Addr) (ps : List (Int × Int)), Sb p H H' → PotAt H' p → PrAt H' a ps → Good ps → Q (.ref a) H'
section
variable {P : Program} {w : World} {K : PySem.W.Frag} {mg : Str → Option Value} {base : Heap}
theorem scLPot : FnScope ["_law_script", "_law_k", "_law_cell"] ["_law_script", "_law_k"] (defScope sLPot) := ⟨rfl, rfl, rfl, by decide +kernel, rfl, by decide +kernel, by decide +kernel⟩
theorem ok_lpot {f : Addr} {fd : FuncData} (F : Fun K "_law_pot" "_law_pot" sLPot f fd) (T : Bl mg) : FnOk P w K mg base CX0 1 f fd ["_law_script", "_law_k"] (spPot K) := by
  refine F.ok scLPot (fun vs H Q E h => ?_) (fun cdv A outer s H vs Q E hr h => ?_)
  · obtain ⟨a, ns, rfl, _⟩ := h
    rfl
  · obtain ⟨a, ns, rfl, hS, q⟩ := h
    refine ⟨_, pss_cons (ps_set (i := 2) scLPot.nd rfl (Or.inl rfl) (pe_op op_add (pe_op op_mul pe_int (pv 1)) pe_int))
      (pss_cons (ps_if (pt_cmpR op_lt (pv 1) (pe_callB call_len_seq (by rfl) T.len PySem.boot_len (pa_cons (pv 0) pa_nil)) (nomark _))
        (pss_one (ps_set (i := 2) scLPot.nd rfl (Or.inl rfl) (pe_callB call_abs (by rfl) T.abs boot_abs (pa_cons (pe_ix ix_list (pv 0) (pv 1) (fun _ _ => rfl)) pa_nil)))) pss_nil)
      (pss_one (ps_ret (pe_lst (pa_cons (pe_callB (call_max2 rfl) (by rfl) T.max boot_max (pa_cons pe_int (pa_cons (pe_op op_sub (pv 2) (pe_op op_pow pe_int pe_int)) pa_nil)))
        (pa_cons (pe_op op_add (pe_op op_mod (pe_callTy call_int1 (by rfl) T.int boot_int (pa_cons (pe_op op_add (pe_op op_add (pe_op op_mul (pe_op op_mod (pe_callTy call_int1 (by rfl) T.int boot_int (pa_cons (pv 2) pa_nil)) pe_int) pe_int) (pe_op op_mul pe_int (pv 1))) pe_int) pa_nil)) pe_int) pe_int) pa_nil)))))), ?_⟩
    refine ⟨.int 0, rfl, 1549, 0, rfl, rfl, .inl ⟨by decide, by decide⟩, 1549 * 0, 1367, rfl, rfl, ?_⟩
    refine ⟨.int 0, rfl, .ref a, rfl, a, ns.map V.int, rfl, .inl hS, 0, _, rfl, rfl, _, rfl, ite2 (fun c => ?_) (fun c => ?_)⟩
    · obtain ⟨x, r, rfl⟩ : ∃ x r, ns = x :: r := by
        cases ns with
        | nil => exact absurd (of_decide_eq_true c) (by simp)
        | cons x r => exact ⟨x, r, rfl⟩
      refine ⟨.ref a, rfl, .int 0, rfl, a, _, 0, .int x, rfl, rfl, hS, at0, x, rfl, ?_⟩
      generalize (if x < 0 then -x else x) = c'
      refine ⟨.int c', rfl, 10, 18, rfl, rfl, ⟨by decide, by decide, by decide⟩, c', _, rfl, rfl, 0, _, rfl, ?_⟩
      refine ⟨.int c', rfl, .inl ⟨c', rfl, c', 2147483549, rfl, rfl, (by show (0 : Int) < 2147483549; decide), c' % 2147483549, 40692, rfl, rfl, .inr ⟨by decide, by decide⟩, .int 0, rfl, 6779, 0, rfl, rfl, .inl ⟨by decide, by decide⟩, _, _, rfl, rfl, _, 1367, rfl, rfl,
        .inl ⟨_, rfl, _, 2147483563, rfl, rfl, (by show (0 : Int) < 2147483563; decide), _, 1, rfl, rfl, (by show 2 ≤ sizeLine; decide), fun p np => ?_⟩⟩⟩
      refine q _ p (same_upd np) np ⟨_, _, upd_same, ?_, ?_, ?_⟩
      · split <;> omega
      · have := Int.emod_nonneg (c' % 2147483549 * 40692 + 6779 * 0 + 1367) (show (2147483563 : Int) ≠ 0 by decide)
        omega
      · have := Int.emod_lt_of_pos (c' % 2147483549 * 40692 + 6779 * 0 + 1367) (show (0 : Int) < 2147483563 by decide)
        omega
    · refine ⟨.int (1549 * 0 + 1367), rfl, 10, 18, rfl, rfl, ⟨by decide, by decide, by decide⟩, (1549 * 0 + 1367), _, rfl, rfl, 0, _, rfl, ?_⟩
      refine ⟨.int (1549 * 0 + 1367), rfl, .inl ⟨(1549 * 0 + 1367), rfl, (1549 * 0 + 1367), 2147483549, rfl, rfl, (by show (0 : Int) < 2147483549; decide), (1549 * 0 + 1367) % 2147483549, 40692, rfl, rfl, .inr ⟨by decide, by decide⟩, .int 0, rfl, 6779, 0, rfl, rfl, .inl ⟨by decide, by decide⟩, _, _, rfl, rfl, _, 1367, rfl, rfl,
        .inl ⟨_, rfl, _, 2147483563, rfl, rfl, (by show (0 : Int) < 2147483563; decide), _, 1, rfl, rfl, (by show 2 ≤ sizeLine; decide), fun p np => ?_⟩⟩⟩
      refine q _ p (same_upd np) np ⟨_, _, upd_same, ?_, ?_, ?_⟩
      · split <;> omega
      · have := Int.emod_nonneg ((1549 * 0 + 1367) % 2147483549 * 40692 + 6779 * 0 + 1367) (show (2147483563 : Int) ≠ 0 by decide)
        omega
      · have := Int.emod_lt_of_pos ((1549 * 0 + 1367) % 2147483549 * 40692 + 6779 * 0 + 1367) (show (0 : Int) < 2147483563 by decide)
        omega
theorem scLDraw : FnScope ["_law_pot_here", "_law_many", "_law_digit"] ["_law_pot_here", "_law_many"] (defScope sLDraw) := ⟨rfl, rfl, rfl, by decide +kernel, rfl, by decide +kernel, by decide +kernel⟩
theorem ok_ldraw {f : Addr} {fd : FuncData} (F : Fun K "_law_draw" "_law_draw" sLDraw f fd) (T : Bl mg) : FnOk P w K mg base CX0 1 f fd ["_law_pot_here", "_law_many"] spDraw := by
  refine F.ok scLDraw (fun vs H Q E h => ?_) (fun cdv A outer s H vs Q E hr h => ?_)
  · obtain ⟨p, many, rfl, _⟩ := h
    rfl
  · obtain ⟨p, many, rfl, n1, n2, ⟨x, y, hp, x0, y0, y1⟩, q⟩ := h
    refine ⟨_, pss_cons (ps_if (pt_cmpR op_gt (pe_ix ix_list (pv 0) pe_int (fun _ _ => rfl)) pe_int (nomark _))
        (pss_cons (ps_asg (pe_callB call_divmod (by rfl) T.divmod boot_divmod (pa_cons (pe_ix ix_list (pv 0) pe_int (fun _ _ => rfl)) (pa_cons (pv 1) pa_nil))) (pg_tup rfl (pgs_cons (pg_sub (pv 0) pe_int set_list) (pgs_cons (pg_name (i := 2) scLDraw.nd rfl (Or.inl rfl)) pgs_nil))))
        (pss_one (ps_ret (pv 2)))) pss_nil)
      (pss_cons (ps_asg (pe_op op_mod (pe_callTy call_int1 (by rfl) T.int boot_int (pa_cons (pe_op op_add (pe_op op_mul (pe_ix ix_list (pv 0) pe_int (fun _ _ => rfl)) pe_int) pe_int) pa_nil)) pe_int) (pg_sub (pv 0) pe_int set_list))
      (pss_one (ps_ret (pe_op op_mod (pe_callTy call_int1 (by rfl) T.int boot_int (pa_cons (pe_op op_fdiv (pe_op op_mod (pe_callTy call_int1 (by rfl) T.int boot_int (pa_cons (pe_op op_mul (pe_ix ix_list (pv 0) pe_int (fun _ _ => rfl)) (pe_ix ix_list (pv 0) pe_int (fun _ _ => rfl))) pa_nil)) pe_int) pe_int) pa_nil)) (pv 1))))), ?_⟩
    have hm0 : (0 : Int) < (many : Int) := by omega
    refine ⟨.ref p, rfl, p, _, 0, _, rfl, rfl, SqL.of hp, at0, x, 0, rfl, rfl, _, rfl, ite2 (fun c => ?_) (fun c => ?_)⟩
    · refine ⟨.ref p, rfl, p, _, 0, _, rfl, rfl, SqL.of hp, at0, .int (many : Int), rfl, x, (many : Int), rfl, ⟨hm0, by omega⟩, fun t nt => ?_⟩
      have npt : p ≠ t := ne_of_none hp nt
      have hp1 : (upd H t (.tup [.int (x / (many : Int)), .int (x % (many : Int))])) p = some (.lst [.int x, .int y]) := by
        rw [upd_ne npt]
        exact hp
      refine ⟨t, _, rfl, SqT.of upd_same, rfl, _, _, rfl, .ref p, rfl, p, _, 0, 0, rfl, rfl, hp1, rfl, _, _, rfl, rfl, ?_⟩
      obtain ⟨d, hd⟩ := Int.eq_ofNat_of_zero_le (Int.emod_nonneg x (show (many : Int) ≠ 0 by omega))
      have hd2 := Int.emod_lt_of_pos x hm0
      rw [hd] at hd2 ⊢
      refine ⟨.int (d : Int), rfl, q _ d (by omega) (fun b o nb hb => ?_) ⟨x / (many : Int), y, upd_same, Int.ediv_nonneg x0 (by omega), y0, y1⟩⟩
      rw [upd_ne nb, upd_ne (ne_of_none hb nt)]
      exact hb
    · refine ⟨.ref p, rfl, p, _, 1, _, rfl, rfl, SqL.of hp, at1, y, 39373, rfl, rfl, .inr ⟨by decide, by decide⟩, y * 39373, 1367, rfl, rfl, .inl ⟨_, rfl, y * 39373 + 1367, 2147483587, rfl, rfl, (by show (0 : Int) < 2147483587; decide), ?_⟩⟩
      have z0 : 0 ≤ lcg y := Int.emod_nonneg (y * 39373 + 1367) (show (2147483587 : Int) ≠ 0 by decide)
      have z1 : lcg y < 2147483587 := Int.emod_lt_of_pos (y * 39373 + 1367) (show (0 : Int) < 2147483587 by decide)
      refine ⟨.ref p, rfl, p, _, 1, 1, rfl, rfl, hp, rfl, ?_⟩
      have hp2 : (upd H p (.lst [.int x, .int (lcg y)])) p = some (.lst [.int x, .int (lcg y)]) := upd_same
      refine ⟨.ref p, rfl, p, [.int x, .int (lcg y)], 1, .int (lcg y), rfl, rfl, SqL.of hp2, at1, .ref p, rfl, p, [.int x, .int (lcg y)], 1, .int (lcg y), rfl, rfl, SqL.of hp2, at1, lcg y, lcg y, rfl, rfl, .inl ⟨by omega, by omega⟩, .inl ⟨lcg y * lcg y, rfl, lcg y * lcg y, 2147483563, rfl, rfl, (by show (0 : Int) < 2147483563; decide),
        lcg y * lcg y % 2147483563, 17, rfl, rfl, ⟨by decide, by decide⟩, .inl ⟨lco (lcg y), rfl, .int (many : Int), rfl, lco (lcg y), (many : Int), rfl, rfl, hm0, ?_⟩⟩⟩
      obtain ⟨d, hd⟩ := Int.eq_ofNat_of_zero_le (Int.emod_nonneg (lco (lcg y)) (show (many : Int) ≠ 0 by omega))
      have hd2 := Int.emod_lt_of_pos (lco (lcg y)) hm0
      show Q (.int (lco (lcg y) % (many : Int))) _
      rw [hd] at hd2 ⊢
      refine q _ d (by omega) (fun b o nb hb => ?_) ⟨x, lcg y, hp2, x0, z0, by omega⟩
      rw [upd_ne nb]
      exact hb
theorem scLPick : FnScope ["_law_pot_here", "_law_some"] ["_law_pot_here", "_law_some"] (defScope sLPick) := ⟨rfl, rfl, rfl, by decide +kernel, rfl, by decide +kernel, by decide +kernel⟩
theorem ok_lpick {f g : Addr} {fd gd : FuncData} (F : Fun K "_law_pick" "_law_pick" sLPick f fd) (FD : Fun K "_law_draw" "_law_draw" sLDraw g gd) (bD : Binds K gd ["_law_pot_here", "_law_many"] []) (mD : mg "_law_draw" = some (.ref g)) (T : Bl mg) : FnOk P w K mg base CX0 2 f fd ["_law_pot_here", "_law_some"] spPick := by
  have GD : FnOk P w K mg base CX0 1 g gd ["_law_pot_here", "_law_many"] spDraw := ok_ldraw FD T
  refine F.ok scLPick (fun vs H Q E h => ?_) (fun cdv A outer s H vs Q E hr h => ?_)
  · obtain ⟨p, l, xs, rfl, _⟩ := h
    rfl
  · obtain ⟨p, l, xs, rfl, hp, nlp, hl, l1, l2, q⟩ := h
    refine ⟨_, pss_one (ps_ret (pe_ix ix_list (pv 1) (pe_call GD hr (by rfl) mD FD.kp bD .nil pass0 (pa_cons (pv 0) (pa_cons (pe_callB call_len_seq (by rfl) T.len PySem.boot_len (pa_cons (pv 1) pa_nil)) pa_nil))) (fun _ _ => rfl))), ?_⟩
    refine ⟨.ref l, rfl, .ref p, rfl, .ref l, rfl, l, xs, rfl, .inl (SqL.of hl), p, xs.length, rfl, l1, l2, hp, fun H' d hd sb hp' => ?_⟩
    have hl' := sb l _ nlp hl
    exact ⟨l, xs, (d : Int), xs[d], rfl, rfl, SqL.of hl', atI_nat (List.getElem?_eq_getElem hd), q H' _ (List.getElem_mem hd) sb hp'⟩

/-! ### the drawn product -/
theorem inV_int (x : Int) : ∀ ns : List Int, inV (.int x) (ns.map V.int) = decide (x ∈ ns)
  | [] => rfl
  | a :: r => by
    have ih := inV_int x r
    unfold inV at ih ⊢
    rw [List.map_cons, List.any_cons, ih]
    show ((a == x) || decide (x ∈ r)) = decide (x ∈ a :: r)
    by_cases e : a = x
    · subst e
      simp
    · have e2 : ¬ x = a := fun z => e z.symm
      simp [e, e2]
theorem flat_ints (ns : List Int) : (ns.map V.int).all flatV = true := by
  rw [List.all_map]
  exact List.all_eq_true.mpr fun _ _ => rfl
theorem scLProd : FnScope ["_law_pot_here", "_law_steps", "_law_powers", "_law_turn", "_law_step"] ["_law_pot_here"] (defScope sLProd) := ⟨rfl, rfl, rfl, by decide +kernel, rfl, by decide +kernel, by decide +kernel⟩
theorem pow_ok {d6 d2 : Nat} (h6 : d6 < 6) (h2 : d2 < 2) : pwv d6 d2 ≠ 0 ∧ -6 ≤ pwv d6 d2 ∧ pwv d6 d2 ≤ 6 := by
  unfold pwv
  obtain rfl | rfl : d2 = 0 ∨ d2 = 1 := by omega
  · rw [show (1 - 2 * ((0 : Nat) : Int)) = 1 by decide, Int.mul_one]
    omega
  · rw [show (1 - 2 * ((1 : Nat) : Int)) = -1 by decide]
    omega
theorem ok_lprod {f g k : Addr} {fd gd kd : FuncData} (F : Fun K "_law_product" "_law_product" sLProd f fd) (FD : Fun K "_law_draw" "_law_draw" sLDraw g gd) (bD : Binds K gd ["_law_pot_here", "_law_many"] []) (mD : mg "_law_draw" = some (.ref g))
    (FP : Fun K "_law_pick" "_law_pick" sLPick k kd) (bP : Binds K kd ["_law_pot_here", "_law_some"] []) (mP : mg "_law_pick" = some (.ref k)) (T : Bl mg) : FnOk P w K mg base CX0 3 f fd ["_law_pot_here"] spLProd := by
  have GD : FnOk P w K mg base CX0 1 g gd ["_law_pot_here", "_law_many"] spDraw := ok_ldraw FD T
  have GP : FnOk P w K mg base CX0 2 k kd ["_law_pot_here", "_law_some"] spPick := ok_lpick FP FD bD mD T
  refine F.ok scLProd (fun vs H Q E h => ?_) (fun cdv A outer s H vs Q E hr h => ?_)
  · obtain ⟨p, rfl, _⟩ := h
    rfl
  · obtain ⟨p, rfl, hp, q⟩ := h
    refine ⟨_, pss_cons (ps_par (i := 1) (j := 2) rfl scLProd.nd rfl rfl (by decide) rfl rfl (pa_cons (pe_lst pa_nil) (pa_cons (pe_lst pa_nil) pa_nil)) (by rfl))
      (pss_cons (ps_for PassesOwn.never rfl (pi_range1 (by rfl) T.range (pa_cons (pe_call GD (hr.mono (by decide)) (by rfl) mD FD.kp bD .nil pass0 (pa_cons (pv 0) (pa_cons pe_int pa_nil))) pa_nil)) (pg_name (i := 3) scLProd.nd rfl (Or.inl rfl))
        (pss_cons (ps_set (i := 4) scLProd.nd rfl (Or.inl rfl) (pe_call GP hr (by rfl) mP FP.kp bP .nil pass0 (pa_cons (pv 0) (pa_cons (pe_lst (pa_cons pe_int (pa_cons pe_int (pa_cons pe_int (pa_cons pe_int (pa_cons pe_int (pa_cons pe_int (pa_cons pe_int (pa_cons pe_int (pa_cons pe_int pa_nil)))))))))) pa_nil))))
        (pss_one (ps_if (pt_cmpR op_notIn_seq (pv 4) (pv 1) (by rfl)) (pss_one (ps_expr (pe_bm PySem.F.plainAttrs_list PySem.F.slot_list_append PySem.F.type_list_append mt_append (pv 1) (pa_cons (pv 4) pa_nil)))) pss_nil))))
      (pss_cons (ps_for PassesOwn.never rfl (pi_list (pe_callB cr_sortedI (by rfl) T.sorted boot_sorted (pa_cons (pv 1) pa_nil))) (pg_name (i := 4) scLProd.nd rfl (Or.inl rfl))
        (pss_one (ps_expr (pe_bm PySem.F.plainAttrs_list PySem.F.slot_list_append PySem.F.type_list_append mt_append (pv 2) (pa_cons (pe_tup (pa_cons (pv 4) (pa_cons
          (pe_op op_mul (pe_op op_add pe_int (pe_call GD (hr.mono (by decide)) (by rfl) mD FD.kp bD .nil pass0 (pa_cons (pv 0) (pa_cons pe_int pa_nil)))) (pe_op op_sub pe_int (pe_op op_mul pe_int (pe_call GD (hr.mono (by decide)) (by rfl) mD FD.kp bD .nil pass0 (pa_cons (pv 0) (pa_cons pe_int pa_nil)))))) pa_nil))) pa_nil)))))
      (pss_one (ps_ret (pe_tup (pa_cons pe_str (pa_cons (pe_callTy call_tuple_of (by rfl) T.tuple boot_tuple (pa_cons (pv 2) pa_nil)) pa_nil))))))), ?_⟩
    -- two new lists
    refine ⟨Nat.zero_le _, fun sa nsa => ?_⟩
    refine ⟨Nat.zero_le _, fun pa npa => ?_⟩
    have nsp : sa ≠ pa := fun e => by
      rw [← e, upd_same] at npa
      cases npa
    have npa0 : H pa = none := by
      rw [upd_ne nsp.symm] at npa
      exact npa
    have hps : p ≠ sa := by
      obtain ⟨x, y, e, _⟩ := hp
      exact ne_of_none e nsa
    have hpp : p ≠ pa := by
      obtain ⟨x, y, e, _⟩ := hp
      exact ne_of_none e npa0
    have s0 : Same H (upd (upd H sa (.lst [])) pa (.lst [])) := same_updT (same_upd nsa) npa0
    refine ⟨_, _, rfl, ?_⟩
    -- the number of turns
    refine ⟨.ref p, rfl, p, 4, rfl, by decide, by decide, hp.same s0, fun H1 d hd sb1 hp1 => ⟨(d : Int), rfl, by omega, by omega, ?_⟩⟩
    rw [show ((d : Int)).toNat = d by omega]
    have hsa1 : H1 sa = some (.lst []) := sb1 sa _ hps.symm (by rw [upd_ne nsp, upd_same])
    have hpa1 : H1 pa = some (.lst []) := sb1 pa _ hpp.symm upd_same
    refine for_range (lo := 0) (n := d) (fun i σ H' => ∃ (v3 v4 : Option V) (ss : List Int), σ = [some (.ref p), some (.ref sa), some (.ref pa), v3, v4] ∧ (∀ b o, b ≠ p → H b = some o → H' b = some o) ∧ PotAt H' p ∧ H' sa = some (.lst (ss.map V.int)) ∧ H' pa = some (.lst []) ∧ ss.Nodup ∧ ss.length ≤ i ∧ ∀ z ∈ ss, 1 ≤ z ∧ z ≤ 10)
      ⟨none, none, [], rfl, fun b o nb hb => sb1 b o nb (s0 _ _ hb), hp1, hsa1, hpa1, List.nodup_nil, Nat.le_refl _, fun z hz => by simp at hz⟩ (fun i σ H' hi hP => ?_) (fun σ H' hP => ?_)
    · obtain ⟨v3, v4, ss, rfl, sb, hp', hsa, hpa, nss, lss, bss⟩ := hP
      refine ⟨.ref p, rfl, (by show 9 ≤ sizeLine; decide), fun l nl => ?_⟩
      have nlp : l ≠ p := fun e => by
        obtain ⟨x, y, e2, _⟩ := hp'
        rw [e, e2] at nl
        cases nl
      refine ⟨p, l, _, rfl, hp'.same (same_upd nl), nlp, upd_same, (by show 1 ≤ 9; decide), (by show 9 ≤ 1000; decide), fun H2 v hv sb2 hp2 => ?_⟩
      obtain ⟨z, rfl, z1, z2⟩ : ∃ z : Int, v = .int z ∧ 1 ≤ z ∧ z ≤ 10 := by
        simp only [List.mem_cons, List.not_mem_nil, or_false] at hv
        rcases hv with rfl | rfl | rfl | rfl | rfl | rfl | rfl | rfl | rfl <;> exact ⟨_, rfl, by decide, by decide⟩
      have k2 : ∀ b o, b ≠ p → H' b = some o → H2 b = some o := fun b o nb hb => sb2 b o nb (by rw [upd_ne (ne_of_none hb nl)]; exact hb)
      have hsa2 := k2 sa _ hps.symm hsa
      have hpa2 := k2 pa _ hpp.symm hpa
      refine ⟨.int z, rfl, .ref sa, rfl, sa, _, rfl, .inl (SqL.of hsa2), rfl, flat_ints ss, _, rfl, ?_⟩
      show if (!inV (V.int z) (ss.map V.int)) = true then _ else _
      rw [inV_int]
      by_cases hz : z ∈ ss
      · rw [decide_eq_true hz]
        refine iteF ?_
        exact ⟨_, _, ss, rfl, fun b o nb hb => k2 b o nb (sb b o nb hb), hp2, hsa2, hpa2, nss, Nat.le_succ_of_le lss, bss⟩
      · rw [decide_eq_false hz]
        refine iteT ?_
        refine ⟨.ref sa, rfl, .inl ⟨rfl, _, SqL.of hsa2⟩, .int z, rfl, sa, _, _, rfl, rfl, hsa2, (by rw [List.length_map]; exact small (by omega)), ?_⟩
        refine ⟨_, _, ss ++ [z], rfl, fun b o nb hb => ?_, ?_, ?_, ?_, ?_, ?_, ?_⟩
        · rw [upd_ne (ne_of_none hb nsa)]
          exact k2 b o nb (sb b o nb hb)
        · obtain ⟨x, y, e, r⟩ := hp2
          exact ⟨x, y, by rw [upd_ne hps]; exact e, r⟩
        · rw [upd_same, List.map_append] <;> rfl
        · rw [upd_ne nsp.symm]
          exact hpa2
        · exact List.nodup_append.mpr ⟨nss, by simp, fun x hx y hy e => by
            rw [List.mem_singleton] at hy
            subst hy
            subst e
            exact hz hx⟩
        · rw [List.length_append, List.length_singleton]
          omega
        · intro y hy
          rcases List.mem_append.mp hy with hy | hy
          · exact bss y hy
          · rw [List.mem_singleton] at hy
            subst hy
            exact ⟨z1, z2⟩
    · obtain ⟨v3, v4, ss, rfl, sb, hp', hsa, hpa, nss, lss, bss⟩ := hP
      refine ⟨.ref sa, rfl, sa, ss, rfl, SqL.of hsa, fun ns q0 pr srt nq => ?_⟩
      have nns : ns.Nodup := pr.nodup_iff.mpr nss
      have sns := le_lt srt nns
      have lns : ns.length ≤ 3 := by
        rw [pr.length_eq]
        omega
      have bns : ∀ z ∈ ns, 1 ≤ z ∧ z ≤ 10 := fun z hz => bss z (pr.mem_iff.mp hz)
      have hqp : q0 ≠ p := fun e => by
        obtain ⟨x, y, e2, _⟩ := hp'
        rw [e, e2] at nq
        cases nq
      have hqpa : q0 ≠ pa := fun e => by
        rw [e, hpa] at nq
        cases nq
      refine ⟨q0, rfl, ⟨_, SqL.of upd_same⟩, for_list (K := K) (a := q0) (xs := ns.map V.int) (fun i σ H2 => ∃ (v3 v4 : Option V) (as : List Addr) (ps : List (Int × Int)), σ = [some (.ref p), some (.ref sa), some (.ref pa), v3, v4] ∧ (∀ b o, b ≠ p → H b = some o → H2 b = some o) ∧ PotAt H2 p ∧
          H2 q0 = some (.lst (ns.map V.int)) ∧ H2 pa = some (.lst (as.map V.ref)) ∧ as.length = ps.length ∧ ps.map (·.1) = ns.take i ∧ (∀ r ∈ ps, r.2 ≠ 0 ∧ -6 ≤ r.2 ∧ r.2 ≤ 6) ∧ ∀ (j : Nat) (x : Addr) (r : Int × Int), as[j]? = some x → ps[j]? = some r → H2 x = some (.tup [.int r.1, .int r.2]))
        ⟨v3, v4, [], [], rfl, fun b o nb hb => ?_, ?_, upd_same, ?_, rfl, rfl, fun r hr => by simp at hr, fun j x r e => by simp at e⟩ (fun i σ H2 _ hP => ?_) (fun i x σ H2 hx hP => ?_) (fun σ H2 hP => ?_)⟩
      · have h1 := sb b o nb hb
        rw [upd_ne (ne_of_none h1 nq)]
        exact h1
      · exact hp'.same (same_upd nq)
      · rw [upd_ne hqpa.symm]
        exact hpa
      · obtain ⟨v3, v4, as, ps, rfl, sb2, hp2, hq2, _⟩ := hP
        exact SqL.of hq2
      · obtain ⟨v3, v4, as, ps, rfl, sb2, hp2, hq2, hpa2, lap, eps, bps, hts⟩ := hP
        have hi : i < ns.length := by
          have z := (List.getElem?_eq_some_iff.mp hx).1
          rw [List.length_map] at z
          exact z
        have e : x = .int ns[i] := by
          rw [List.getElem?_map, List.getElem?_eq_getElem hi] at hx
          exact (Option.some.inj hx).symm
        subst e
        have lps : ps.length = i := by
          have z := congrArg List.length eps
          rw [List.length_map, List.length_take] at z
          omega
        refine ⟨.ref pa, rfl, .inl ⟨rfl, _, SqL.of hpa2⟩, .int ns[i], rfl, .ref p, rfl, p, 6, rfl, by decide, by decide, hp2, fun H3 d6 h6 sb3 hp3 => ?_⟩
        refine ⟨1, (d6 : Int), rfl, rfl, .ref p, rfl, p, 2, rfl, by decide, by decide, hp3, fun H4 d2 h2 sb4 hp4 => ?_⟩
        have k4 : ∀ b o, b ≠ p → H2 b = some o → H4 b = some o := fun b o nb hb => sb4 b o nb (sb3 b o nb hb)
        refine ⟨2, (d2 : Int), rfl, rfl, .inl ⟨by decide, by decide⟩, 1, 2 * (d2 : Int), rfl, rfl, 1 + (d6 : Int), 1 - 2 * (d2 : Int), rfl, rfl, .inl ⟨by omega, by omega⟩, (by show 2 ≤ sizeLine; decide), fun t nt => ?_⟩
        obtain ⟨w0, w1, w2⟩ := pow_ok h6 h2
        have hpa4 := k4 pa _ hpp.symm hpa2
        have k5 : ∀ b o, b ≠ p → H2 b = some o → (upd H4 t (.tup [.int ns[i], .int (pwv d6 d2)])) b = some o := fun b o nb hb => by
          have h := k4 b o nb hb
          rw [upd_ne (ne_of_none h nt)]
          exact h
        have hpa5 := k5 pa _ hpp.symm hpa2
        have lns3 : as.length ≤ 3 := by omega
        refine ⟨pa, _, _, rfl, rfl, hpa5, (by rw [List.length_map]; exact small (by omega)), ?_⟩
        have ntpa : t ≠ pa := fun e => by
          rw [e, hpa4] at nt
          cases nt
        refine ⟨_, _, as ++ [t], ps ++ [(ns[i], pwv d6 d2)], rfl, fun b o nb hb => ?_, ?_, ?_, ?_, ?_, ?_, ?_, ?_⟩
        · rw [upd_ne (ne_of_none hb npa0)]
          exact k5 b o nb (sb2 b o nb hb)
        · obtain ⟨x, y, e, r⟩ := hp4
          refine ⟨x, y, ?_, r⟩
          rw [upd_ne hpp, upd_ne (ne_of_none e nt)]
          exact e
        · rw [upd_ne hqpa]
          exact k5 q0 _ hqp hq2
        · rw [upd_same, List.map_append] <;> rfl
        · rw [List.length_append, List.length_append, lap] <;> rfl
        · rw [List.map_append, eps, List.take_add_one, List.getElem?_eq_getElem hi] <;> rfl
        · intro r hr
          rcases List.mem_append.mp hr with hr | hr
          · exact bps r hr
          · rw [List.mem_singleton] at hr
            subst hr
            exact ⟨w0, w1, w2⟩
        · intro j x r e1 e2
          rw [List.getElem?_append] at e1 e2
          rw [lap] at e1
          split at e1
          · next hj =>
            rw [if_pos hj] at e2
            have hx2 := hts j x r e1 e2
            have nx : x ≠ p := by
              obtain ⟨x0, y0, e, _⟩ := hp2
              exact ne_of hx2 e (by intro z; cases z)
            have nxpa : x ≠ pa := ne_of hx2 hpa2 (by intro z; cases z)
            rw [upd_ne nxpa]
            exact k5 x _ nx hx2
          · next hj =>
            rw [if_neg hj] at e2
            have h0 : j - ps.length = 0 := by
              have z := (List.getElem?_eq_some_iff.mp e1).1
              rw [List.length_singleton] at z
              omega
            rw [h0] at e1 e2
            cases e1
            cases e2
            rw [upd_ne ntpa, upd_same]
            rfl
      · obtain ⟨v3, v4, as, ps, rfl, sb2, hp2, hq2, hpa2, lap, eps, bps, hts⟩ := hP
        rw [List.length_map, List.take_length] at eps
        refine ⟨.ref pa, rfl, pa, _, rfl, .inl ⟨SqL.of hpa2, fun t nt => ?_⟩⟩
        refine ⟨(by show 2 ≤ sizeLine; decide), fun a na => ?_⟩
        have lps : ps.length = ns.length := by
          rw [← eps, List.length_map]
        have k3 : ∀ b o, H2 b = some o → (upd (upd H2 t (.tup (as.map V.ref))) a (.tup [.str "product", .ref t])) b = some o := fun b o hb => same_upd na _ _ (same_upd nt _ _ hb)
        refine q _ a ps (fun b o nb hb => k3 b o (sb2 b o nb hb)) (hp2.same k3) ⟨t, as, upd_same, same_upd na _ _ upd_same, lap, fun j x r e1 e2 => k3 _ _ (hts j x r e1 e2)⟩ ⟨by omega, fun r hr => ?_, ?_⟩
        · have hm : r.1 ∈ ns := by
            rw [← eps]
            exact List.mem_map.mpr ⟨r, hr, rfl⟩
          obtain ⟨b1, b2⟩ := bns _ hm
          obtain ⟨c1, c2, c3⟩ := bps r hr
          exact ⟨b1, by omega, c1, by omega, by omega⟩
        · have z := sns
          rw [← eps, List.pairwise_map] at z
          exact z
end
end K61

/-! ## K61F -/
namespace K61
open PySem PySem.Spec PyProof.Rows L2

/-! ### lists as data -/
def dI (L : List Int) : PyData := .list (L.map PyData.int)
def dL (F : List (List Int)) : PyData := .list (F.map dI)
theorem eqvAll_I : ∀ L M : List Int, PyData.eqvAll (L.map PyData.int) (M.map PyData.int) = decide (L = M)
  | [], [] => rfl
  | [], _ :: _ => rfl
  | _ :: _, [] => rfl
  | x :: xs, y :: ys => by
    have ih := eqvAll_I xs ys
    show ((x == y) && PyData.eqvAll (xs.map PyData.int) (ys.map PyData.int)) = decide (x :: xs = y :: ys)
    rw [ih]
    by_cases e : x = y
    · subst e
      by_cases e2 : xs = ys
      · subst e2
        simp
      · simp [e2]
    · simp [e]
theorem eqv_dI (L M : List Int) : PyData.eqv (dI L) (dI M) = decide (L = M) := eqvAll_I L M
theorem eqvAll_L : ∀ F : List (List Int), PyData.eqvAll (F.map dI) (F.map dI) = true
  | [] => rfl
  | x :: r => by
    show (PyData.eqv (dI x) (dI x) && PyData.eqvAll (r.map dI) (r.map dI)) = true
    rw [eqv_dI, eqvAll_L r, decide_eq_true rfl] <;> rfl
theorem eqv_dL (F : List (List Int)) : PyData.eqv (dL F) (dL F) = true := eqvAll_L F
theorem any_dI (L : List Int) : ∀ F : List (List Int), ((F.map dI).any fun z => PyData.eqv z (dI L)) = decide (L ∈ F)
  | [] => rfl
  | x :: r => by
    rw [List.map_cons, List.any_cons, any_dI L r, eqv_dI]
    by_cases e : x = L
    · subst e
      simp
    · have e2 : ¬ L = x := fun z => e z.symm
      simp [e, e2]
theorem lay_I : ∀ L : List Int, PyData.canLayAll0 (L.map PyData.int) = true
  | [] => rfl
  | _ :: r => lay_I r
theorem dep_I : ∀ L : List Int, PyData.depthAll (L.map PyData.int) = 0
  | [] => rfl
  | _ :: r => by
    show max 0 (PyData.depthAll (r.map PyData.int)) = 0
    rw [dep_I r] <;> rfl
theorem shaped_dI (L : List Int) : SeqAt.shaped (dI L) = true := by
  show (PyData.canLayAll0 (L.map PyData.int) && decide (PyData.depthAll (L.map PyData.int) + 1 ≤ 64)) = true
  rw [lay_I, dep_I] <;> rfl
theorem lay_L : ∀ F : List (List Int), PyData.canLayAll0 (F.map dI) = true
  | [] => rfl
  | x :: r => by
    show (PyData.canLayAll0 (x.map PyData.int) && PyData.canLayAll0 (r.map dI)) = true
    rw [lay_I, lay_L r] <;> rfl
theorem dep_L : ∀ F : List (List Int), PyData.depthAll (F.map dI) ≤ 1
  | [] => Nat.zero_le _
  | x :: r => by
    have ih := dep_L r
    show max (PyData.depthAll (x.map PyData.int) + 1) (PyData.depthAll (r.map dI)) ≤ 1
    rw [dep_I]
    omega
theorem shaped_dL (F : List (List Int)) : SeqAt.shaped (dL F) = true := by
  show (PyData.canLayAll0 (F.map dI) && decide (PyData.depthAll (F.map dI) + 1 ≤ 64)) = true
  have h := dep_L F
  rw [lay_L, decide_eq_true (by omega)] <;> rfl
section
variable {K : PySem.W.Frag} {H H0 : Hp}
theorem dpAll_I : ∀ L : List Int, DpAll K H (L.map V.int) (L.map PyData.int)
  | [] => .nil
  | i :: r => .cons (.int i) (dpAll_I r)
theorem dp_I {a : Addr} {L : List Int} (h : H a = some (.lst (L.map V.int))) : Dp K H (.ref a) (dI L) := .lst (SqL.of h) (dpAll_I L)
theorem dpAll_L : ∀ {as : List Addr} {F : List (List Int)}, LLAt H0 H as F → DpAll K H (as.map V.ref) (F.map dI)
  | [], [], _ => .nil
  | [], _ :: _, h => by
    have := h.1
    simp at this
  | _ :: _, [], h => by
    have := h.1
    simp at this
  | a :: as, l :: F, h => .cons (dp_I (h.2 0 a l rfl rfl).2) (dpAll_L ⟨by have := h.1; simpa using this, fun i x r e1 e2 => h.2 (i + 1) x r (by simpa using e1) (by simpa using e2)⟩)
theorem dp_L {p : Addr} {as : List Addr} {F : List (List Int)} (hp : H p = some (.lst (as.map V.ref))) (h : LLAt H0 H as F) : Dp K H (.ref p) (dL F) := .lst (SqL.of hp) (dpAll_L h)
end
/-! ### what a list at an address holds -/
def vI : V → Int
  | .int i => i
  | _ => 0
def cont (H : Hp) (x : Addr) : List Int := match H x with
  | some (.lst xs) => xs.map vI
  | _ => []
theorem cont_of {H : Hp} {x : Addr} {l : List Int} (h : H x = some (.lst (l.map V.int))) : cont H x = l := by
  unfold cont
  rw [h]
  show (l.map V.int).map vI = l
  rw [List.map_map]
  exact (List.map_congr_left fun _ _ => rfl).trans (List.map_id l)
theorem cont_map {H0 H : Hp} : ∀ {as : List Addr} {F : List (List Int)}, LLAt H0 H as F → as.map (cont H) = F
  | [], [], _ => rfl
  | [], _ :: _, h => by
    have := h.1
    simp at this
  | _ :: _, [], h => by
    have := h.1
    simp at this
  | a :: as, l :: F, h => by
    rw [List.map_cons, cont_of (h.2 0 a l rfl rfl).2, cont_map ⟨by have := h.1; simpa using this, fun i x r e1 e2 => h.2 (i + 1) x r (by simpa using e1) (by simpa using e2)⟩]
/-! ### one sorted rearrangement -/
theorem lex_same : ∀ a b : List Int, lexLt a b = HT.lexLt a b
  | [], [] => rfl
  | [], _ :: _ => rfl
  | _ :: _, [] => rfl
  | x :: xs, y :: ys => by
    show (if x = y then lexLt xs ys else decide (x < y)) = _
    rw [lex_same xs ys] <;> rfl
theorem lex_anti : ∀ a b : List Int, HT.lexLt a b = false → HT.lexLt b a = false → a = b
  | [], [], _, _ => rfl
  | [], y :: ys, h, _ => by
    rw [HT.lexLt_nil_cons] at h
    cases h
  | x :: xs, [], _, h => by
    rw [HT.lexLt_nil_cons] at h
    cases h
  | x :: xs, y :: ys, h1, h2 => by
    rw [HT.lexLt_cons] at h1 h2
    by_cases e : x = y
    · subst e
      rw [if_pos rfl] at h1 h2
      rw [lex_anti xs ys h1 h2]
    · rw [if_neg e] at h1
      rw [if_neg fun z => e z.symm] at h2
      have a := of_decide_eq_false h1
      have b := of_decide_eq_false h2
      omega
theorem sorted_LL {k : Addr → List Int} {ts ts' : List Addr} {F : List (List Int)} (e : ts.map k = F) (s : F.Pairwise fun x y => lexLt x y = true) (p : ts'.Perm ts) (s' : ts'.Pairwise fun p q => HT.lexLt (k q) (k p) = false) : ts'.map k = F := by
  have pm : (ts'.map k).Perm F := by
    rw [← e]
    exact p.map k
  refine List.Perm.eq_of_pairwise (le := fun x y => HT.lexLt y x = false) (fun a b _ _ h h' => lex_anti a b h' h) (List.pairwise_map.mpr s') (s.imp fun {x y} z => ?_) pm
  rw [lex_same] at z
  exact NtL.lex_asym _ _ z
theorem LLAt.of_map {H : Hp} {ts : List Addr} {F : List (List Int)} (e : ts.map (cont H) = F) (h : ∀ t ∈ ts, H t = some (.lst ((cont H t).map V.int))) : LLAt (fun _ => none) H ts F := by
  subst e
  refine ⟨by rw [List.length_map], fun i x l e1 e2 => ⟨rfl, ?_⟩⟩
  rw [List.getElem?_map, e1] at e2
  have z := Option.some.inj e2
  rw [← z]
  exact h x (List.mem_of_getElem? e1)
theorem LLAt.cont {H0 H : Hp} {as : List Addr} {F : List (List Int)} (h : LLAt H0 H as F) : ∀ t ∈ as, H t = some (.lst ((K61.cont H t).map V.int)) := fun t ht => by
  obtain ⟨l, _, e⟩ := h.mem ht
  rw [cont_of e]
  exact e
theorem LLAt.same {H0 H H' : Hp} {as : List Addr} {F : List (List Int)} (h : LLAt H0 H as F) (s : Same H H') : LLAt H0 H' as F := ⟨h.1, fun i x l e1 e2 => ⟨(h.2 i x l e1 e2).1, s _ _ (h.2 i x l e1 e2).2⟩⟩
theorem rg_ints (m : Nat) : rgV 0 (m : Int) = ((List.range m).map fun (i : Nat) => (i : Int)).map V.int := by
  unfold rgV
  rw [show ((m : Int) - 0).toNat = m by omega, List.map_map]
  refine List.map_congr_left fun i _ => ?_
  show V.int (0 + (i : Int)) = V.int (i : Int)
  rw [Int.zero_add]

/-! ### the law's defs -/
def HasK (K : PySem.W.Frag) (mg : Str → Option Value) (x : Str) (st : Stmt) (ps ks : List Str) : Prop := ∃ (f : Addr) (fd : FuncData), Fun K x x st f fd ∧ Binds K fd ps [] ∧ mg x = some (.ref f) ∧ KBn K fd ps 0 ks (fun _ ws => ws.reverse) (fun _ zs => zs.reverse)
structure LDefs (K : PySem.W.Frag) (mg : Str → Option Value) : Prop where
  P : Defs K mg
  sqof : HasK K mg "squares_of" sSqOf ["m"] ["m"]
  orbit : HasK K mg "orbit" sOrbit ["product", "m", "t"] ["t", "m", "product"]
  orbits : HasK K mg "orbits" sOrbits ["product", "m"] ["m", "product"]
  lpot : Has K mg "_law_pot" sLPot ["_law_script", "_law_k"]
  ldraw : Has K mg "_law_draw" sLDraw ["_law_pot_here", "_law_many"]
  lpick : Has K mg "_law_pick" sLPick ["_law_pot_here", "_law_some"]
  lgcd : Has K mg "_law_gcd" sLGcd ["_law_one", "_law_other"]
  lprod : Has K mg "_law_product" sLProd ["_law_pot_here"]
  lsum : Has K mg "_law_sum" sLSum ["_law_product_here"]
  lsq : Has K mg "_law_squares" sLSq ["_law_m"]
  lorbit : Has K mg "_law_orbit" sLOrbit ["_law_product_here", "_law_m", "_law_t", "_law_squares_here"]
  lright : Has K mg "_law_right" sLRight ["_law_pot_here"]
theorem kbn_of {K : PySem.W.Frag} {x qual : Str} {st : Stmt} {f : Addr} {fd : FuncData} {ps ks : List Str} (F : Fun K x qual st f fd)
    (h : ∀ (kV doc pm : Value) (an : Option Addr) (cdv ct : Value) (ws : List Value), ws.length = ks.length → bindArgs (PySem.W.fnOf x qual (defArgs st) (defBody st) (defScope st) .none kV doc pm an cdv ct) ⟨[], ks.zip ws⟩ = pure (ps.zip ws.reverse)) :
    KBn K fd ps 0 ks (fun _ ws => ws.reverse) (fun _ zs => zs.reverse) := by
  obtain ⟨oc, od, kV, doc, pm, an, cdv, ct, osl, rfl, lk, hcd⟩ := F.ex
  refine ⟨fun s us ws _ h0 h1 => ?_, fun _ r => r.reverse⟩
  have e : us = [] := List.eq_nil_of_length_eq_zero h0
  subst e
  exact .of_eq (h kV doc pm an cdv ct ws h1)
end K61

/-! ## K61G -/
namespace K61
open PySem PySem.Spec PyProof.Rows L2
theorem eqI (L : List Int) : (!PyData.eqv (dI L) (dI L)) = false := by
  rw [eqv_dI, decide_eq_true rfl] <;> rfl
theorem eqL (F : List (List Int)) : (!PyData.eqv (dL F) (dL F)) = false := by
  rw [eqv_dL] <;> rfl
theorem flat_take (F : List (List Int)) (i : Nat) : (F.take i).flatten.length ≤ F.flatten.length := by
  have e : F.flatten = (F.take i).flatten ++ (F.drop i).flatten := by
    rw [← List.flatten_append, List.take_append_drop]
  rw [e, List.length_append]
  omega
def spRight : Sp := fun vs H Q _ => ∃ p : Addr, vs = [.ref p] ∧ PotAt H p ∧ ∀ H', Q (.bl true) H'
section
variable {P : Program} {w : World} {K : PySem.W.Frag} {mg : Str → Option Value} {base : Heap}
abbrev NR : List Str := ["_law_pot_here", "_law_product_here", "_law_m", "_law_t", "_law_due", "_law_told", "_law_rests", "_law_found", "_law_rest", "_law_some", "_law_s"]
theorem scLRight : FnScope NR ["_law_pot_here"] (defScope sLRight) := ⟨rfl, rfl, rfl, by decide +kernel, rfl, by decide +kernel, by decide +kernel⟩
theorem ok_lright {f : Addr} {fd : FuncData} (F : Fun K "_law_right" "_law_right" sLRight f fd) (D : LDefs K mg) (T : Bl mg) (C : Cn mg) : FnOk P w K mg base CX0 7 f fd ["_law_pot_here"] spRight := by
  obtain ⟨aD, fdD, FD, bD, mD⟩ := D.ldraw
  obtain ⟨aP, fdP, FP, bP, mP⟩ := D.lpick
  obtain ⟨aG, fdG, FG, bG, mG⟩ := D.lgcd
  obtain ⟨aLP, fdLP, FLP, bLP, mLP⟩ := D.lprod
  obtain ⟨aLS, fdLS, FLS, bLS, mLS⟩ := D.lsum
  obtain ⟨aQ, fdQ, FQ, bQ, mQ⟩ := D.lsq
  obtain ⟨aO, fdO, FO, bO, mO⟩ := D.lorbit
  obtain ⟨aS, fdS, FS, bS, mS, kS⟩ := D.sqof
  obtain ⟨aR, fdR, FR, bR, mR, kR⟩ := D.orbit
  obtain ⟨aA, fdA, FA, bA, mA, kA⟩ := D.orbits
  have GD : FnOk P w K mg base CX0 1 aD fdD ["_law_pot_here", "_law_many"] spDraw := ok_ldraw FD T
  have GLP : FnOk P w K mg base CX0 3 aLP fdLP ["_law_pot_here"] spLProd := ok_lprod FLP FD bD mD FP bP mP T
  have GQ : FnOk P w K mg base CX0 2 aQ fdQ ["_law_m"] spSq := ok_lsq FQ FG bG mG T
  have GO : FnOk P w K mg base CX0 2 aO fdO ["_law_product_here", "_law_m", "_law_t", "_law_squares_here"] spLOrbit := ok_lorbit FO FLS bLS mLS T
  have GS : FnOk P w K mg base CX0 4 aS fdS ["m"] spSq := ok_sqof FS D.P T C
  have GR : FnOk P w K mg base CX0 6 aR fdR ["product", "m", "t"] spOrbit := ok_orbit FR D.P T C
  have GA : FnOk P w K mg base CX0 5 aA fdA ["product", "m"] spOrbits := ok_orbits FA D.P T C
  refine F.ok scLRight (fun vs H Q E h => ?_) (fun cdv A outer s H vs Q E hr h => ?_)
  · obtain ⟨p, rfl, _⟩ := h
    rfl
  · obtain ⟨p, rfl, hp, q⟩ := h
    have hu65 : (A.deeper (envOfC "_law_right" (defScope sLRight) s.heap.objs.size f cdv)).units + 65 < cLine := by
      have := hr.un
      omega
    refine ⟨_,
      -- _law_product_here, _law_m = ..
      pss_cons (ps_par (i := 1) (j := 2) rfl scLRight.nd rfl rfl (by decide) rfl rfl (pa_cons (pe_call GLP (hr.mono (by decide)) (by rfl) mLP FLP.kp bLP .nil pass0 (pa_cons (pv 0) pa_nil)) (pa_cons (pe_op op_add pe_int (pe_call GD (hr.mono (by decide)) (by rfl) mD FD.kp bD .nil pass0 (pa_cons (pv 0) (pa_cons pe_int pa_nil)))) pa_nil)) (by rfl))
      -- _law_t, _law_due = ..
      (pss_cons (ps_par (i := 3) (j := 4) rfl scLRight.nd rfl rfl (by decide) rfl rfl (pa_cons (pe_call GD (hr.mono (by decide)) (by rfl) mD FD.kp bD .nil pass0 (pa_cons (pv 0) (pa_cons (pv 2) pa_nil))) (pa_cons (pe_call GQ (hr.mono (by decide)) (by rfl) mQ FQ.kp bQ .nil pass0 (pa_cons (pv 2) pa_nil)) pa_nil)) (by rfl))
      -- _law_told = squares_of(_law_m)
      (pss_cons (ps_set (i := 5) scLRight.nd rfl (Or.inl rfl) (pe_call GS (hr.mono (by decide)) (by rfl) mS FS.kp bS .nil pass0 (pa_cons (pv 2) pa_nil)))
      (pss_cons (ps_if (PW.pt (pw_or (pt_cmpR (op_neD hr.units) (pv 5) (pv 4) (nomark _)) (pw_or1 (pt_not (pt_val (pe_callB (cr_all rfl) (by rfl) T.all boot_all (pa_cons (pe_lc (own := [("_law_s", 10)]) (g := gName 10) (tt := tYes) rfl scLRight.nd (pi_list (pv 5)) (blkOk_by (N := NR) (sc := defScope sLRight) (by decide +kernel))
          (fun _ _ _ _ _ => pg_name (i := 10) scLRight.nd rfl (Or.inl rfl)) (fun _ _ _ _ _ => pts_nil) (fun _ _ _ _ _ => pe_cmpR op_eq (pe_op op_mod (pv 10) pe_int) pe_int (nomark _))) pa_nil))))))) (pss_one (ps_ret pe_bl)) pss_nil)
      -- _law_told.append(None)
      (pss_cons (ps_expr (pe_bm PySem.F.plainAttrs_list PySem.F.slot_list_append PySem.F.type_list_append mt_append (pv 5) (pa_cons pe_non pa_nil)))
      (pss_cons (ps_if (pt_cmpR (op_neD hr.units) (pe_callN0 GS (hr.mono (by decide)) (by rfl) mS FS.kp kS pass0 (pk_cons (pv 2) pk_nil)) (pv 4) (nomark _)) (pss_one (ps_ret pe_bl)) pss_nil)
      -- _law_rests = _law_orbit(..)
      (pss_cons (ps_set (i := 6) scLRight.nd rfl (Or.inl rfl) (pe_call GO (hr.mono (by decide)) (by rfl) mO FO.kp bO .nil pass0 (pa_cons (pv 1) (pa_cons (pv 2) (pa_cons (pv 3) (pa_cons (pv 4) pa_nil))))))
      (pss_cons (ps_if (PW.pt (pw_or (pt_cmpR (op_neD hr.units) (pe_call GR hr (by rfl) mR FR.kp bR .nil pass0 (pa_cons (pv 1) (pa_cons (pv 2) (pa_cons (pv 3) pa_nil)))) (pv 6) (nomark _)) (pw_or1 (pt_cmpR op_notIn_seq (pv 3) (pv 6) (by rfl))))) (pss_one (ps_ret pe_bl)) pss_nil)
      (pss_cons (ps_if (pt_cmpR (op_neD hr.units) (pe_callN0 GR hr (by rfl) mR FR.kp kR pass0 (pk_cons (pe_ix ix_list (pv 6) (pe_call GD (hr.mono (by decide)) (by rfl) mD FD.kp bD .nil pass0 (pa_cons (pv 0) (pa_cons (pe_callB call_len_seq (by rfl) T.len PySem.boot_len (pa_cons (pv 6) pa_nil)) pa_nil))) (fun _ _ => rfl))
          (pk_cons (pv 2) (pk_cons (pv 1) pk_nil)))) (pv 6) (nomark _)) (pss_one (ps_ret pe_bl)) pss_nil)
      (pss_cons (ps_if (pt_cmpR op_gt (pv 2) pe_int (nomark _)) (pss_one (ps_ret pe_bl)) pss_nil)
      -- _law_found = []
      (pss_cons (ps_set (i := 7) scLRight.nd rfl (Or.inl rfl) (pe_lst pa_nil))
      (pss_cons (ps_for PassesOwn.never rfl (pi_range1 (by rfl) T.range (pa_cons (pv 2) pa_nil)) (pg_name (i := 8) scLRight.nd rfl (Or.inl rfl))
        (pss_cons (ps_set (i := 9) scLRight.nd rfl (Or.inl rfl) (pe_call GO (hr.mono (by decide)) (by rfl) mO FO.kp bO .nil pass0 (pa_cons (pv 1) (pa_cons (pv 2) (pa_cons (pv 8) (pa_cons (pv 4) pa_nil))))))
        (pss_one (ps_expr (pe_bm PySem.F.plainAttrs_list PySem.F.slot_list_extend PySem.F.type_list_extend mt_extend (pv 7) (pa_cons (pe_ifExp (pt_cmpR (op_notInD hu65) (pv 9) (pv 7) (by rfl)) (pe_lst (pa_cons (pv 9) pa_nil)) (pe_lst pa_nil)) pa_nil))))))
      -- _law_told, _law_rests = orbits(..), []
      (pss_cons (ps_par (i := 5) (j := 6) rfl scLRight.nd rfl rfl (by decide) rfl rfl (pa_cons (pe_call GA (hr.mono (by decide)) (by rfl) mA FA.kp bA .nil pass0 (pa_cons (pv 1) (pa_cons (pv 2) pa_nil))) (pa_cons (pe_lst pa_nil) pa_nil)) (by rfl))
      (pss_cons (ps_for PassesOwn.never rfl (pi_list (pv 5)) (pg_name (i := 9) scLRight.nd rfl (Or.inl rfl))
        (pss_one (ps_expr (pe_bm PySem.F.plainAttrs_list PySem.F.slot_list_extend PySem.F.type_list_extend mt_extend (pv 6) (pa_cons (pv 9) pa_nil)))))
      (pss_cons (ps_if (PW.pt (pw_or (pt_cmpR (op_neD hr.units) (pv 5) (pe_callB (cr_sortLL hr.units) (by rfl) T.sorted boot_sorted (pa_cons (pv 7) pa_nil)) (nomark _))
          (pw_or1 (pt_cmpR (op_neD hr.units) (pe_callB cr_sortedI (by rfl) T.sorted boot_sorted (pa_cons (pv 6) pa_nil)) (pe_listRg rfl (by rfl) T.list (prg_1 (by rfl) T.range (pv 2))) (nomark _))))) (pss_one (ps_ret pe_bl)) pss_nil)
      -- _law_told[0].append(None)
      (pss_cons (ps_expr (pe_bm PySem.F.plainAttrs_list PySem.F.slot_list_append PySem.F.type_list_append mt_append (pe_ix ix_list (pv 5) pe_int (fun _ _ => rfl)) (pa_cons pe_non pa_nil)))
      (pss_one (ps_ret (pe_cmpR (op_eqD hr.units) (pe_callN0 GA (hr.mono (by decide)) (by rfl) mA FA.kp kA pass0 (pk_cons (pv 2) (pk_cons (pv 1) pk_nil))) (pe_callB (cr_sortLL hr.units) (by rfl) T.sorted boot_sorted (pa_cons (pv 7) pa_nil)) (nomark _))))))))))))))))))), ?_⟩
    -- the product, m
    refine ⟨.ref p, rfl, p, rfl, hp, fun H1 a ps sb1 hp1 hP1 hG => ?_⟩
    refine ⟨.ref p, rfl, p, 30, rfl, by decide, by decide, hp1, fun H2 d hd sb2 hp2 => ?_⟩
    have hP2 : PrAt H2 a ps := by
      obtain ⟨x, y, e, _⟩ := id hp1
      exact hP1.sb sb2 _ e
    refine ⟨1, (d : Int), rfl, rfl, .ref a, .int ((1 + d : Nat) : Int), rfl, ?_⟩
    have m1 : 1 ≤ 1 + d := by omega
    have m2 : 1 + d ≤ 30 := by omega
    generalize 1 + d = m at m1 m2 ⊢
    -- t, the squares due
    refine ⟨.ref p, rfl, .int (m : Int), rfl, p, m, rfl, m1, by omega, hp2, fun H3 t ht sb3 hp3 => ?_⟩
    refine ⟨.int (m : Int), rfl, m, rfl, m1, m2, fun H4 due s4 nd4 hdue4 => ?_⟩
    refine ⟨.int (t : Int), .ref due, rfl, ?_⟩
    have hP3 : PrAt H3 a ps := by
      obtain ⟨x, y, e, _⟩ := id hp2
      exact hP2.sb sb3 _ e
    have hP4 := hP3.same s4
    have hp4 := hp3.same s4
    -- squares_of
    refine ⟨.int (m : Int), rfl, m, rfl, m1, m2, fun H5 told s5 nt5 ht5 => ?_⟩
    have Z := sq_is m1 m2
    refine ⟨.ref told, rfl, .ref due, rfl, dI (sq m), dI (sq m), dp_I ht5, dp_I (s5 _ _ hdue4), shaped_dI _, shaped_dI _, false, congrArg V.bl (eqI _), iteF ?_⟩
    refine ⟨.ref told, rfl, told, rfl, ⟨_, SqL.of ht5⟩, fun D0 hD => lc_list (K := K) (a := told) (xs := (sq m).map V.int) (fun i H' => Same H5 H' ∧ H' D0 = some (.lst ((List.replicate i true).map V.bl)))
      ⟨same_upd hD, upd_same⟩ (fun i H' _ hP => SqL.of (hP.1 _ _ ht5)) (fun i x H' hx hP => ?_) (fun H6 hP => ?_)⟩
    · obtain ⟨sm, hd'⟩ := hP
      have hi : i < (sq m).length := by
        have z := (List.getElem?_eq_some_iff.mp hx).1
        rw [List.length_map] at z
        exact z
      have e : x = .int (sq m)[i] := by
        rw [List.getElem?_map, List.getElem?_eq_getElem hi] at hx
        exact (Option.some.inj hx).symm
      subst e
      have hz := Z.len
      refine ⟨rfl, .int (sq m)[i], rfl, (sq m)[i], 24, rfl, rfl, (by show (0 : Int) < 24; decide), rfl, _, hd', ?_, same_updT sm hD, ?_⟩
      · rw [List.length_map, List.length_replicate]
        exact small (by omega)
      · rw [upd_same, List.replicate_succ', List.map_append]
        show some (HO.lst (_ ++ [V.bl (decide (V.int ((sq m)[i] % 24) = V.int 1))])) = _
        rw [decide_eq_true (congrArg V.int (Z.one _ (List.getElem_mem hi)))] <;> rfl
    · obtain ⟨sm6, hd'⟩ := hP
      refine ⟨D0, List.replicate ((sq m).map V.int).length true, rfl, SqL.of hd', (List.replicate ((sq m).map V.int).length true).all id, rfl, ?_⟩
      have eall : (List.replicate ((sq m).map V.int).length true).all id = true := List.all_eq_true.mpr fun b hb => (List.mem_replicate.mp hb).2
      rw [eall]
      refine iteF ?_
      have ht6 := sm6 _ _ ht5
      have hdue6 := sm6 _ _ (s5 _ _ hdue4)
      have hP6 := (hP4.same s5).same sm6
      have hp6 := (hp4.same s5).same sm6
      have ntd : due ≠ told := ne_of_none hdue4 nt5
      have ntp : p ≠ told := by
        obtain ⟨x, y, e, _⟩ := hp4
        exact ne_of_none e nt5
      -- told.append(None)
      refine ⟨.ref told, rfl, .inl ⟨rfl, _, SqL.of ht6⟩, told, _, _, rfl, rfl, ht6, (by rw [List.length_map]; have := Z.len; exact small (by omega)), ?_⟩
      generalize hH7 : upd H6 told (.lst ((sq m).map V.int ++ [V.non])) = H7
      have k7 : ∀ b, b ≠ told → H7 b = H6 b := fun b hb => by
        rw [← hH7, upd_ne hb]
      have hdue7 : H7 due = some (.lst ((sq m).map V.int)) := by
        rw [k7 due ntd]
        exact hdue6
      have hP7 : PrAt H7 a ps := hP6.sb (fun b o nb hb => by rw [k7 b nb]; exact hb) _ ht6
      have hp7 : PotAt H7 p := by
        obtain ⟨x, y, e, r⟩ := hp6
        exact ⟨x, y, by rw [k7 p ntp]; exact e, r⟩
      -- squares_of(m=m)
      refine ⟨.int (m : Int), rfl, rfl, rfl, m, rfl, m1, m2, fun H8 told2 s8 n8 ht8 => ?_⟩
      refine ⟨.ref due, rfl, dI (sq m), dI (sq m), dp_I ht8, dp_I (s8 _ _ hdue7), shaped_dI _, shaped_dI _, false, congrArg V.bl (eqI _), iteF ?_⟩
      have hdue8 := s8 _ _ hdue7
      have hP8 := hP7.same s8
      -- the orbit
      refine ⟨.ref a, rfl, .int (m : Int), rfl, .int (t : Int), rfl, .ref due, rfl, a, due, ps, m, t, rfl, hP8, hG, m1, m2, ht, hdue8, fun H9 rs s9 n9 hrs9 => ?_⟩
      have tm : (t : Int) < (m : Int) := by omega
      have hself : (t : Int) ∈ orb (ssum ps) m (t : Int) := orb_self m1 m2 (by omega) tm
      have hl40 : (orb (ssum ps) m (t : Int)).length ≤ 40 := orb_len40 m1 m2
      have hsame : ∀ r : Int, r ∈ orb (ssum ps) m (t : Int) → orb (ssum ps) m r = orb (ssum ps) m (t : Int) := fun r hr => orb_same m1 m2 (by omega) tm hr
      have hbd : ∀ r : Int, r ∈ orb (ssum ps) m (t : Int) → 0 ≤ r ∧ r < (m : Int) := fun r hr => orb_bd m1 hr
      refine ⟨.ref a, rfl, .int (m : Int), rfl, .int (t : Int), rfl, a, ps, m, t, rfl, hP8.same s9, hG, m1, m2, ht, fun H10 o1 s10 n10 ho1 => ?_⟩
      generalize orb (ssum ps) m (t : Int) = O at hrs9 ho1 hself hl40 hsame hbd
      have hrs10 := s10 _ _ hrs9
      refine ⟨.ref rs, rfl, dI O, dI O, dp_I ho1, dp_I hrs10, shaped_dI _, shaped_dI _, false, congrArg V.bl (eqI _), iteF ?_⟩
      refine ⟨.int (t : Int), rfl, .ref rs, rfl, rs, _, rfl, .inl (SqL.of hrs10), rfl, flat_ints _, false, congrArg V.bl ?_, iteF ?_⟩
      · show (!inV (V.int (t : Int)) (O.map V.int)) = false
        rw [inV_int, decide_eq_true hself] <;> rfl
      -- from another of its rests
      have hp10 := ((hp7.same s8).same s9).same s10
      have nrp : rs ≠ p := by
        obtain ⟨x, y, e, _⟩ := hp7.same s8
        exact fun z => by
          rw [z, e] at n9
          cases n9
      have hO1 : 1 ≤ (O.map V.int).length := by
        rw [List.length_map]
        exact List.length_pos_of_mem hself
      refine ⟨.ref rs, rfl, .ref p, rfl, .ref rs, rfl, rs, _, rfl, .inl (SqL.of hrs10), p, (O.map V.int).length, rfl, hO1, (by rw [List.length_map]; omega), hp10, fun H11 d2 hd2 sb11 hp11 => ?_⟩
      have hrs11 := sb11 rs _ nrp hrs10
      have hdo : d2 < O.length := by
        rw [List.length_map] at hd2
        exact hd2
      have hmem : O[d2] ∈ O := List.getElem_mem hdo
      obtain ⟨t2, ht2⟩ := Int.eq_ofNat_of_zero_le (hbd _ hmem).1
      have ht2m : t2 < m := by
        have := (hbd _ hmem).2
        rw [ht2] at this
        omega
      have hP10 := (hP8.same s9).same s10
      have hP11 : PrAt H11 a ps := by
        obtain ⟨x, y, e, _⟩ := id hp10
        exact hP10.sb sb11 _ e
      have hdue10 := s10 _ _ (s9 _ _ hdue8)
      have ndp : due ≠ p := by
        obtain ⟨x, y, e, _⟩ := hp3
        exact fun z => by
          rw [z, e] at nd4
          cases nd4
      have hdue11 := sb11 due _ ndp hdue10
      have hget : (O.map V.int)[d2]? = some (.int (t2 : Int)) := by
        rw [List.getElem?_map, List.getElem?_eq_getElem hdo, ht2] <;> rfl
      refine ⟨rs, _, (d2 : Int), .int (t2 : Int), rfl, rfl, SqL.of hrs11, atI_nat hget, .int (m : Int), rfl, .ref a, rfl, rfl, rfl, a, ps, m, t2, rfl, hP11, hG, m1, m2, ht2m, fun H12 o2 s12 n12 ho2 => ?_⟩
      have eO : orb (ssum ps) m (t2 : Int) = O := hsame _ (by rw [← ht2]; exact hmem)
      rw [eO] at ho2
      refine ⟨.ref rs, rfl, dI O, dI O, dp_I ho2, dp_I (s12 _ _ hrs11), shaped_dI _, shaped_dI _, false, congrArg V.bl (eqI _), iteF ?_⟩
      have hP12 := hP11.same s12
      have hdue12 := s12 _ _ hdue11
      -- if m > 8
      refine ⟨.int (m : Int), rfl, (m : Int), 8, rfl, rfl, _, rfl, ite2 (fun _ => q _) (fun c => ?_)⟩
      have m8 : m ≤ 8 := by
        have z : ¬ (8 : Int) < (m : Int) := fun z => c (decide_eq_true z)
        omega
      -- found = []
      refine ⟨Nat.zero_le _, fun fa nfa => ?_⟩
      refine ⟨.int (m : Int), rfl, (m : Int), rfl, by omega, by omega, ?_⟩
      rw [show ((m : Int)).toNat = m by omega]
      refine for_range (lo := 0) (n := m) (fun i σ H' => ∃ (v8 v9 : Option V) (as : List Addr), σ = [some (.ref p), some (.ref a), some (.int (m : Int)), some (.int (t : Int)), some (.ref due), some (.ref told), some (.ref rs), some (.ref fa), v8, v9, none] ∧ Same H12 H' ∧
          H' fa = some (.lst (as.map V.ref)) ∧ fa ∉ as ∧ LLAt H12 H' as (fnd (ssum ps) m i))
        ⟨none, none, [], rfl, same_upd nfa, upd_same, by simp, rfl, fun i x l e => by simp at e⟩ (fun i σ H' hi hP => ?_) (fun σ H13 hP => ?_)
      · obtain ⟨v8, v9, as, rfl, sm, hfa, nas, LL⟩ := hP
        rw [Int.zero_add]
        refine ⟨.ref a, rfl, .int (m : Int), rfl, .int (i : Int), rfl, .ref due, rfl, a, due, ps, m, i, rfl, hP12.same sm, hG, m1, m2, hi, sm _ _ hdue12, fun H2 l s2 nl hl => ?_⟩
        have ef := fnd_succ_law (S := ssum ps) m1 m2 hi
        generalize orb (ssum ps) m (i : Int) = L at hl ef
        have hfa2 := s2 _ _ hfa
        have LL2 := LL.same s2
        have hlen : as.length ≤ i := by
          rw [LL.1]
          exact fnd_len _ _ _
        have nlfa : l ≠ fa := fun e => by
          rw [e, hfa] at nl
          cases nl
        have nx : ∀ x ∈ as, x ≠ fa := fun x hx e => nas (e ▸ hx)
        refine ⟨.ref fa, rfl, .inl ⟨rfl, _, SqL.of hfa2⟩, .ref l, rfl, .ref fa, rfl, dI L, (fnd (ssum ps) m i).map dI, dp_I hl, dp_L hfa2 LL2, shaped_dI _, shaped_dL _, !decide (L ∈ fnd (ssum ps) m i), congrArg V.bl (congrArg Bool.not (any_dI _ _)), ?_⟩
        by_cases hm : L ∈ fnd (ssum ps) m i
        · rw [if_pos hm] at ef
          rw [decide_eq_true hm]
          refine iteF ?_
          refine ⟨Nat.zero_le _, fun b nb => ?_⟩
          have nfb : fa ≠ b := ne_of_none hfa2 nb
          refine ⟨fa, b, _, [], rfl, rfl, (by rw [upd_ne nfb]; exact hfa2), upd_same, (by rw [List.length_map]; exact smallL (by show as.length + 0 ≤ 4000; omega)), ?_⟩
          have k6 : ∀ x o, H2 x = some o → x ≠ fa → (upd (upd H2 b (.lst [])) fa (.lst (as.map V.ref ++ []))) x = some o := fun x o hx nx => by
            rw [upd_ne nx, upd_ne (ne_of_none hx nb)]
            exact hx
          refine ⟨_, _, as, rfl, fun x o hx => k6 x o (s2 _ _ (sm _ _ hx)) (ne_of_none hx nfa), by rw [upd_same, List.append_nil], nas, ?_⟩
          rw [ef]
          exact ⟨LL2.1, fun j x r e1 e2 => ⟨(LL2.2 j x r e1 e2).1, k6 x _ (LL2.2 j x r e1 e2).2 (nx x (List.mem_of_getElem? e1))⟩⟩
        · rw [if_neg hm] at ef
          rw [decide_eq_false hm]
          refine iteT ?_
          refine ⟨.ref l, rfl, (by show 1 ≤ sizeLine; decide), fun b nb => ?_⟩
          have nfb : fa ≠ b := ne_of_none hfa2 nb
          refine ⟨fa, b, _, [.ref l], rfl, rfl, (by rw [upd_ne nfb]; exact hfa2), upd_same, (by rw [List.length_map]; exact smallL (by show as.length + 1 ≤ 4000; omega)), ?_⟩
          have k6 : ∀ x o, H2 x = some o → x ≠ fa → (upd (upd H2 b (.lst [.ref l])) fa (.lst (as.map V.ref ++ [.ref l]))) x = some o := fun x o hx nx => by
            rw [upd_ne nx, upd_ne (ne_of_none hx nb)]
            exact hx
          refine ⟨_, _, as ++ [l], rfl, fun x o hx => k6 x o (s2 _ _ (sm _ _ hx)) (ne_of_none hx nfa), by rw [upd_same, List.map_append] <;> rfl, ?_, ?_⟩
          · rw [List.mem_append, List.mem_singleton]
            rintro (z | z)
            · exact nas z
            · exact nlfa z.symm
          · rw [ef]
            exact LLAt.snoc ⟨LL2.1, fun j x r e1 e2 => ⟨(LL2.2 j x r e1 e2).1, k6 x _ (LL2.2 j x r e1 e2).2 (nx x (List.mem_of_getElem? e1))⟩⟩ (sm.free nl) (k6 l _ hl nlfa)
      · obtain ⟨v8, v9, as, rfl, sm13, hfa13, nas, LL13⟩ := hP
        have W := fnd_is (ssum ps) m1 m8
        generalize hF : fnd (ssum ps) m m = Fd at LL13 W
        -- told, rests = orbits(..), []
        refine ⟨.ref a, rfl, .int (m : Int), rfl, a, ps, m, rfl, hP12.same sm13, hG, m1, m8, fun H14 pt as2 s14 npt hpt14 nd2 npas LL14 => ?_⟩
        rw [hF] at LL14
        refine ⟨Nat.zero_le _, fun ra nra => ⟨.ref pt, .ref ra, rfl, ?_⟩⟩
        have nptra : pt ≠ ra := ne_of_none hpt14 nra
        refine ⟨.ref pt, rfl, pt, rfl, ⟨_, SqL.of (by rw [upd_ne nptra]; exact hpt14)⟩, for_list (K := K) (a := pt) (xs := as2.map V.ref) (fun i σ H' => ∃ v9 : Option V, σ = [some (.ref p), some (.ref a), some (.int (m : Int)), some (.int (t : Int)), some (.ref due), some (.ref pt), some (.ref ra), some (.ref fa), v8, v9, none] ∧
            Same H14 H' ∧ H' ra = some (.lst (((Fd.take i).flatten).map V.int)))
          ⟨_, rfl, same_upd nra, upd_same⟩ (fun i σ H' _ hP => ?_) (fun i x σ H' hx hP => ?_) (fun σ H16 hP => ?_)⟩
        · obtain ⟨_, _, sm, _⟩ := hP
          exact SqL.of (sm _ _ hpt14)
        · obtain ⟨v9', rfl, sm, hra⟩ := hP
          have hi : i < as2.length := by
            have z := (List.getElem?_eq_some_iff.mp hx).1
            rw [List.length_map] at z
            exact z
          have e : x = .ref as2[i] := by
            rw [List.getElem?_map, List.getElem?_eq_getElem hi] at hx
            exact (Option.some.inj hx).symm
          subst e
          have hiF : i < Fd.length := by
            rw [← LL14.1]
            exact hi
          have hx2 := (LL14.2 i as2[i] Fd[i] (List.getElem?_eq_getElem hi) (List.getElem?_eq_getElem hiF)).2
          have et : (Fd.take (i + 1)).flatten = (Fd.take i).flatten ++ Fd[i] := by
            rw [List.take_add_one, List.getElem?_eq_getElem hiF, List.flatten_append]
            simp
          have hsz := flat_take Fd (i + 1)
          have hlm : Fd.flatten.length ≤ 8 := by
            rw [W.prm.length_eq, List.length_map, List.length_range]
            exact m8
          rw [et, List.length_append] at hsz
          refine ⟨.ref ra, rfl, .inl ⟨rfl, _, SqL.of hra⟩, .ref as2[i], rfl, ra, as2[i], _, _, rfl, rfl, hra, sm _ _ hx2, (by rw [List.length_map, List.length_map]; exact smallL (by omega)), ?_⟩
          refine ⟨_, rfl, same_updT sm nra, ?_⟩
          rw [upd_same, et, List.map_append]
        · obtain ⟨v9', rfl, sm16, hra16⟩ := hP
          have efl : Fd.take (as2.map V.ref).length = Fd := by
            rw [List.length_map, LL14.1, List.take_length]
          rw [efl] at hra16
          have s1316 : Same H13 H16 := s14.trans sm16
          have hfa16 := s1316 _ _ hfa13
          have LL16 := LL13.same s1316
          have LLt16 := LL14.same sm16
          -- told != sorted(found)
          refine ⟨.ref pt, rfl, .ref fa, rfl, fa, as, cont H16, rfl, SqL.of hfa16, LL16.cont, fun ts1 q1 pm1 srt1 nq1 => ?_⟩
          have e1 : ts1.map (cont H16) = Fd := sorted_LL (cont_map LL16) W.srt pm1 srt1
          have LLs : LLAt (fun _ => none) H16 ts1 Fd := LLAt.of_map e1 fun z hz => LL16.cont z (pm1.mem_iff.mp hz)
          have s17 : Same H16 (upd H16 q1 (.lst (ts1.map V.ref))) := same_upd nq1
          refine ⟨dL Fd, dL Fd, dp_L (s17 _ _ (sm16 _ _ hpt14)) (LLt16.same s17), dp_L upd_same (LLs.same s17), shaped_dL _, shaped_dL _, false, congrArg V.bl (eqL _), iteF ?_⟩
          generalize upd H16 q1 (.lst (ts1.map V.ref)) = H17 at s17
          -- sorted(rests) != list(range(m))
          refine ⟨.ref ra, rfl, ra, Fd.flatten, rfl, SqL.of (s17 _ _ hra16), fun ns q2 pm2 srt2 nq2 => ?_⟩
          have ens : ns = (List.range m).map fun (i : Nat) => (i : Int) := perm_uniq srt2 (by
            rw [List.pairwise_map]
            exact List.pairwise_lt_range.imp fun {x y} z => by omega) (pm2.trans W.prm)
          refine ⟨.int (m : Int), rfl, (m : Int), rfl, RgOk.of_le (by decide) (by omega) (by decide) (by omega), fun q3 nq3 => ?_⟩
          rw [rg_ints, ← ens]
          have s18 : Same H17 (upd H17 q2 (.lst (ns.map V.int))) := same_upd nq2
          have hq2 : (upd H17 q2 (.lst (ns.map V.int))) q2 = some (.lst (ns.map V.int)) := upd_same
          generalize upd H17 q2 (.lst (ns.map V.int)) = H18 at s18 hq2 nq3
          have s19 : Same H18 (upd H18 q3 (.lst (ns.map V.int))) := same_upd nq3
          refine ⟨dI ns, dI ns, dp_I (s19 _ _ hq2), dp_I upd_same, shaped_dI _, shaped_dI _, false, congrArg V.bl (eqI _), iteF ?_⟩
          generalize upd H18 q3 (.lst (ns.map V.int)) = H19 at s19
          have s1619 : Same H16 H19 := s17.trans (s18.trans s19)
          -- told[0].append(None)
          obtain ⟨a0, ar, ea⟩ : ∃ a0 ar, as2 = a0 :: ar := by
            cases as2 with
            | nil => exact absurd (List.eq_nil_of_length_eq_zero (by rw [← LL14.1] <;> rfl)) W.ne
            | cons x r => exact ⟨x, r, rfl⟩
          obtain ⟨l0, nl0, hl0⟩ := LL14.mem (x := a0) (by rw [ea]; exact List.mem_cons_self)
          have hl19 := s1619 _ _ (sm16 _ _ hl0)
          have hpt19 : H19 pt = some (.lst (as2.map V.ref)) := s1619 _ _ (sm16 _ _ hpt14)
          have hl0n : l0.length ≤ 8 := by
            have hlm : Fd.flatten.length ≤ 8 := by
              rw [W.prm.length_eq, List.length_map, List.length_range]
              exact m8
            have h0 : 0 < Fd.length := by
              rw [← LL14.1, ea]
              exact Nat.succ_pos _
            have e0 : l0 = Fd[0] := by
              have z := (LL14.2 0 a0 Fd[0] (by rw [ea] <;> rfl) (List.getElem?_eq_getElem h0)).2
              rw [hl0] at z
              have z2 := HO.lst.inj (Option.some.inj z)
              exact (List.map_inj_right (fun _ _ q => V.int.inj q)).mp z2
            have hsz := flat_take Fd 1
            rw [show Fd.take 1 = [] ++ [Fd[0]] by rw [List.take_add_one, List.getElem?_eq_getElem h0] <;> rfl] at hsz
            simp only [List.nil_append, List.flatten_cons, List.flatten_nil, List.append_nil] at hsz
            rw [e0]
            omega
          refine ⟨.ref pt, rfl, pt, _, 0, .ref a0, rfl, rfl, SqL.of hpt19, (by rw [ea]; exact at0), .inl ⟨rfl, _, SqL.of hl19⟩, a0, _, _, rfl, rfl, hl19, (by rw [List.length_map]; exact small (by omega)), ?_⟩
          have s1319 : Same H13 H19 := s1316.trans s1619
          have k20 : ∀ b o, H13 b = some o → (upd H19 a0 (.lst (l0.map V.int ++ [V.non]))) b = some o := fun b o hb => by
            rw [upd_ne (ne_of_none hb nl0)]
            exact s1319 _ _ hb
          generalize upd H19 a0 (.lst (l0.map V.int ++ [V.non])) = H20 at k20
          have hP20 : PrAt H20 a ps := (hP12.same sm13).same k20
          -- orbits(m=m, product=product) == sorted(found)
          refine ⟨.int (m : Int), rfl, .ref a, rfl, rfl, rfl, a, ps, m, rfl, hP20, hG, m1, m8, fun H21 pt3 as3 s21 npt3 hpt3 _ _ LL21 => ?_⟩
          rw [hF] at LL21
          have hfa21 := s21 _ _ (k20 _ _ hfa13)
          have LLf := LL13.same (fun b o hb => s21 b o (k20 b o hb))
          refine ⟨.ref fa, rfl, fa, as, cont H21, rfl, SqL.of hfa21, LLf.cont, fun ts2 q4 pm4 srt4 nq4 => ?_⟩
          have e2 : ts2.map (cont H21) = Fd := sorted_LL (cont_map LLf) W.srt pm4 srt4
          have LLs2 : LLAt (fun _ => none) H21 ts2 Fd := LLAt.of_map e2 fun z hz => LLf.cont z (pm4.mem_iff.mp hz)
          have s22 : Same H21 (upd H21 q4 (.lst (ts2.map V.ref))) := same_upd nq4
          refine ⟨dL Fd, dL Fd, dp_L (s22 _ _ hpt3) (LL21.same s22), dp_L upd_same (LLs2.same s22), shaped_dL _, shaped_dL _, ?_⟩
          show Q (.bl (PyData.eqv (dL Fd) (dL Fd))) _
          rw [eqv_dL]
          exact q _
end
end K61

/-! ## K61End -/
namespace K61
open PySem PySem.Spec PyProof.Rows L2
/-! ### law -/
def spLaw (K : PySem.W.Frag) : Sp := fun vs H Q _ => ∃ (a : Addr) (ns : List Int), vs = [.ref a] ∧ SqL K H a (ns.map V.int) ∧ ns.length ≤ 63 ∧ ∀ H', Q (.bl true) H'
section
variable {P : Program} {w : World} {K : PySem.W.Frag} {mg : Str → Option Value} {base : Heap}
theorem scLaw : FnScope ["_law_script"] ["_law_script"] (defScope sLaw) := ⟨rfl, rfl, rfl, by decide +kernel, rfl, by decide +kernel, by decide +kernel⟩
theorem ok_law {f : Addr} {fd : FuncData} (F : Fun K "law" "law" sLaw f fd) (D : LDefs K mg) (T : Bl mg) (C : Cn mg) : FnOk P w K mg base CX0 8 f fd ["_law_script"] (spLaw K) := by
  obtain ⟨aP, fdP, FP, bP, mP⟩ := D.lpot
  obtain ⟨aR, fdR, FR, bR, mR⟩ := D.lright
  have GP : FnOk P w K mg base CX0 1 aP fdP ["_law_script", "_law_k"] (spPot K) := ok_lpot FP T
  have GR : FnOk P w K mg base CX0 7 aR fdR ["_law_pot_here"] spRight := ok_lright FR D T C
  refine F.ok scLaw (fun vs H Q E h => ?_) (fun cdv A outer s H vs Q E hr h => ?_)
  · obtain ⟨a, ns, rfl, _⟩ := h
    rfl
  · obtain ⟨a, ns, rfl, hS, hlen, q⟩ := h
    refine ⟨_, pss_one (ps_ret (pe_call GR hr (by rfl) mR FR.kp bR .nil pass0 (pa_cons (pe_call GP (hr.mono (by decide)) (by rfl) mP FP.kp bP .nil pass0 (pa_cons (pv 0) (pa_cons pe_int pa_nil))) pa_nil))), ?_⟩
    exact ⟨.ref a, rfl, a, ns, rfl, hS, fun H' p s' n hp => ⟨p, rfl, hp, q⟩⟩
end
/-! ### what the top has left -/
theorem all_mk {l : PySem.W.OpenLaw} {w : World} {K : PySem.W.Frag} {h : Heap} {mg : Str → Option Value} {fa f1 f2 f3 f4 f5 f6 f7 f8 f9 f10 f11 f12 f13 f14 f15 f16 f17 f18 f19 f20 f21 f22 f23 f24 f25 : Addr} (X : K.In h) (G : h.Ns mainGlobals mg) (hfa : mg "law" = some (.ref fa))
    {od1 an1 od2 an2 od3 an3 od4 an4 od5 an5 od6 an6 od7 an7 od8 an8 od9 an9 od10 an10 od11 an11 od12 an12 od13 an13 od14 an14 od15 an15 od16 an16 od17 an17 od18 an18 od19 an19 od20 an20 od21 an21 od22 an22 od23 an23 od24 an24 od25 an25 : Option Addr} {sl1 sl2 sl3 sl4 sl5 sl6 sl7 sl8 sl9 sl10 sl11 sl12 sl13 sl14 sl15 sl16 sl17 sl18 sl19 sl20 sl21 sl22 sl23 sl24 sl25 : Array (Option Value)} {oc1 kV1 dc1 pm1 cd1 ct1 oc2 kV2 dc2 pm2 cd2 ct2 oc3 kV3 dc3 pm3 cd3 ct3 oc4 kV4 dc4 pm4 cd4 ct4 oc5 kV5 dc5 pm5 cd5 ct5 oc6 kV6 dc6 pm6 cd6 ct6 oc7 kV7 dc7 pm7 cd7 ct7 oc8 kV8 dc8 pm8 cd8 ct8 oc9 kV9 dc9 pm9 cd9 ct9 oc10 kV10 dc10 pm10 cd10 ct10 oc11 kV11 dc11 pm11 cd11 ct11 oc12 kV12 dc12 pm12 cd12 ct12 oc13 kV13 dc13 pm13 cd13 ct13 oc14 kV14 dc14 pm14 cd14 ct14 oc15 kV15 dc15 pm15 cd15 ct15 oc16 kV16 dc16 pm16 cd16 ct16 oc17 kV17 dc17 pm17 cd17 ct17 oc18 kV18 dc18 pm18 cd18 ct18 oc19 kV19 dc19 pm19 cd19 ct19 oc20 kV20 dc20 pm20 cd20 ct20 oc21 kV21 dc21 pm21 cd21 ct21 oc22 kV22 dc22 pm22 cd22 ct22 oc23 kV23 dc23 pm23 cd23 ct23 oc24 kV24 dc24 pm24 cd24 ct24 oc25 kV25 dc25 pm25 cd25 ct25 : Value} {t1 t2 t3 t4 t5 : Tok}
    (a1 : PySem.W.nsIn K mainGlobals "is_integer" = some (some (.ref f1))) (l1 : K.lookup f1 = some ⟨oc1, od1, .func (PySem.W.fnOf "is_integer" "is_integer" (defArgs sIsInt) (defBody sIsInt) (defScope sIsInt) .none kV1 dc1 pm1 an1 cd1 ct1), sl1⟩) (c1 : PySem.W.codeIn K cd1 "is_integer" = true) (k1 : PySem.W.keepIn K (.ref f1) = true)
    (a2 : PySem.W.nsIn K mainGlobals "is_count" = some (some (.ref f2))) (l2 : K.lookup f2 = some ⟨oc2, od2, .func (PySem.W.fnOf "is_count" "is_count" (defArgs sIsCount) (defBody sIsCount) (defScope sIsCount) .none kV2 dc2 pm2 an2 cd2 ct2), sl2⟩) (c2 : PySem.W.codeIn K cd2 "is_count" = true) (k2 : PySem.W.keepIn K (.ref f2) = true)
    (a3 : PySem.W.nsIn K mainGlobals "greatest_common" = some (some (.ref f3))) (l3 : K.lookup f3 = some ⟨oc3, od3, .func (PySem.W.fnOf "greatest_common" "greatest_common" (defArgs sGcd) (defBody sGcd) (defScope sGcd) .none kV3 dc3 pm3 an3 cd3 ct3), sl3⟩) (c3 : PySem.W.codeIn K cd3 "greatest_common" = true) (k3 : PySem.W.keepIn K (.ref f3) = true)
    (a4 : PySem.W.nsIn K mainGlobals "is_power_pair" = some (some (.ref f4))) (l4 : K.lookup f4 = some ⟨oc4, od4, .func (PySem.W.fnOf "is_power_pair" "is_power_pair" (defArgs sPair) (defBody sPair) (defScope sPair) .none kV4 dc4 pm4 an4 cd4 ct4), sl4⟩) (c4 : PySem.W.codeIn K cd4 "is_power_pair" = true) (k4 : PySem.W.keepIn K (.ref f4) = true)
    (a5 : PySem.W.nsIn K mainGlobals "is_product_value" = some (some (.ref f5))) (l5 : K.lookup f5 = some ⟨oc5, od5, .func (PySem.W.fnOf "is_product_value" "is_product_value" (defArgs sIsProd) (defBody sIsProd) (defScope sIsProd) .none kV5 dc5 pm5 an5 cd5 ct5), sl5⟩) (c5 : PySem.W.codeIn K cd5 "is_product_value" = true) (k5 : PySem.W.keepIn K (.ref f5) = true)
    (a6 : PySem.W.nsIn K mainGlobals "want_product" = some (some (.ref f6))) (l6 : K.lookup f6 = some ⟨oc6, od6, .func (PySem.W.fnOf "want_product" "want_product" (defArgs sWantProd) (defBody sWantProd) (defScope sWantProd) .none kV6 dc6 pm6 an6 cd6 ct6), sl6⟩) (c6 : PySem.W.codeIn K cd6 "want_product" = true) (k6 : PySem.W.keepIn K (.ref f6) = true)
    (a7 : PySem.W.nsIn K mainGlobals "step_sum" = some (some (.ref f7))) (l7 : K.lookup f7 = some ⟨oc7, od7, .func (PySem.W.fnOf "step_sum" "step_sum" (defArgs sStepSum) (defBody sStepSum) (defScope sStepSum) .none kV7 dc7 pm7 an7 cd7 ct7), sl7⟩) (c7 : PySem.W.codeIn K cd7 "step_sum" = true) (k7 : PySem.W.keepIn K (.ref f7) = true)
    (a8 : PySem.W.nsIn K mainGlobals "squares_by" = some (some (.ref f8))) (l8 : K.lookup f8 = some ⟨oc8, od8, .func (PySem.W.fnOf "squares_by" "squares_by" (defArgs sSqBy) (defBody sSqBy) (defScope sSqBy) .none kV8 dc8 pm8 an8 cd8 ct8), sl8⟩) (c8 : PySem.W.codeIn K cd8 "squares_by" = true) (k8 : PySem.W.keepIn K (.ref f8) = true)
    (a9 : PySem.W.nsIn K mainGlobals "orbit_of" = some (some (.ref f9))) (l9 : K.lookup f9 = some ⟨oc9, od9, .func (PySem.W.fnOf "orbit_of" "orbit_of" (defArgs sOrbitOf) (defBody sOrbitOf) (defScope sOrbitOf) .none kV9 dc9 pm9 an9 cd9 ct9), sl9⟩) (c9 : PySem.W.codeIn K cd9 "orbit_of" = true) (k9 : PySem.W.keepIn K (.ref f9) = true)
    (a10 : PySem.W.nsIn K mainGlobals "orbits_of_rests" = some (some (.ref f10))) (l10 : K.lookup f10 = some ⟨oc10, od10, .func (PySem.W.fnOf "orbits_of_rests" "orbits_of_rests" (defArgs sOrbitsOf) (defBody sOrbitsOf) (defScope sOrbitsOf) .none kV10 dc10 pm10 an10 cd10 ct10), sl10⟩) (c10 : PySem.W.codeIn K cd10 "orbits_of_rests" = true) (k10 : PySem.W.keepIn K (.ref f10) = true)
    (a11 : PySem.W.nsIn K mainGlobals "want_step" = some (some (.ref f11))) (l11 : K.lookup f11 = some ⟨oc11, od11, .func (PySem.W.fnOf "want_step" "want_step" (defArgs sWantStep) (defBody sWantStep) (defScope sWantStep) .none kV11 dc11 pm11 an11 cd11 ct11), sl11⟩) (c11 : PySem.W.codeIn K cd11 "want_step" = true) (k11 : PySem.W.keepIn K (.ref f11) = true)
    (a12 : PySem.W.nsIn K mainGlobals "want_section" = some (some (.ref f12))) (l12 : K.lookup f12 = some ⟨oc12, od12, .func (PySem.W.fnOf "want_section" "want_section" (defArgs sWantSec) (defBody sWantSec) (defScope sWantSec) .none kV12 dc12 pm12 an12 cd12 ct12), sl12⟩) (c12 : PySem.W.codeIn K cd12 "want_section" = true) (k12 : PySem.W.keepIn K (.ref f12) = true)
    (a13 : PySem.W.nsIn K mainGlobals "squares_of" = some (some (.ref f13))) (l13 : K.lookup f13 = some ⟨oc13, od13, .func (PySem.W.fnOf "squares_of" "squares_of" (defArgs sSqOf) (defBody sSqOf) (defScope sSqOf) .none kV13 dc13 pm13 an13 cd13 ct13), sl13⟩) (c13 : PySem.W.codeIn K cd13 "squares_of" = true) (k13 : PySem.W.keepIn K (.ref f13) = true)
    (a14 : PySem.W.nsIn K mainGlobals "orbit" = some (some (.ref f14))) (l14 : K.lookup f14 = some ⟨oc14, od14, .func (PySem.W.fnOf "orbit" "orbit" (defArgs sOrbit) (defBody sOrbit) (defScope sOrbit) .none kV14 dc14 pm14 an14 cd14 ct14), sl14⟩) (c14 : PySem.W.codeIn K cd14 "orbit" = true) (k14 : PySem.W.keepIn K (.ref f14) = true)
    (a15 : PySem.W.nsIn K mainGlobals "orbits" = some (some (.ref f15))) (l15 : K.lookup f15 = some ⟨oc15, od15, .func (PySem.W.fnOf "orbits" "orbits" (defArgs sOrbits) (defBody sOrbits) (defScope sOrbits) .none kV15 dc15 pm15 an15 cd15 ct15), sl15⟩) (c15 : PySem.W.codeIn K cd15 "orbits" = true) (k15 : PySem.W.keepIn K (.ref f15) = true)
    (a16 : PySem.W.nsIn K mainGlobals "_law_pot" = some (some (.ref f16))) (l16 : K.lookup f16 = some ⟨oc16, od16, .func (PySem.W.fnOf "_law_pot" "_law_pot" (defArgs sLPot) (defBody sLPot) (defScope sLPot) .none kV16 dc16 pm16 an16 cd16 ct16), sl16⟩) (c16 : PySem.W.codeIn K cd16 "_law_pot" = true) (k16 : PySem.W.keepIn K (.ref f16) = true)
    (a17 : PySem.W.nsIn K mainGlobals "_law_draw" = some (some (.ref f17))) (l17 : K.lookup f17 = some ⟨oc17, od17, .func (PySem.W.fnOf "_law_draw" "_law_draw" (defArgs sLDraw) (defBody sLDraw) (defScope sLDraw) .none kV17 dc17 pm17 an17 cd17 ct17), sl17⟩) (c17 : PySem.W.codeIn K cd17 "_law_draw" = true) (k17 : PySem.W.keepIn K (.ref f17) = true)
    (a18 : PySem.W.nsIn K mainGlobals "_law_pick" = some (some (.ref f18))) (l18 : K.lookup f18 = some ⟨oc18, od18, .func (PySem.W.fnOf "_law_pick" "_law_pick" (defArgs sLPick) (defBody sLPick) (defScope sLPick) .none kV18 dc18 pm18 an18 cd18 ct18), sl18⟩) (c18 : PySem.W.codeIn K cd18 "_law_pick" = true) (k18 : PySem.W.keepIn K (.ref f18) = true)
    (a19 : PySem.W.nsIn K mainGlobals "_law_gcd" = some (some (.ref f19))) (l19 : K.lookup f19 = some ⟨oc19, od19, .func (PySem.W.fnOf "_law_gcd" "_law_gcd" (defArgs sLGcd) (defBody sLGcd) (defScope sLGcd) .none kV19 dc19 pm19 an19 cd19 ct19), sl19⟩) (c19 : PySem.W.codeIn K cd19 "_law_gcd" = true) (k19 : PySem.W.keepIn K (.ref f19) = true)
    (a20 : PySem.W.nsIn K mainGlobals "_law_product" = some (some (.ref f20))) (l20 : K.lookup f20 = some ⟨oc20, od20, .func (PySem.W.fnOf "_law_product" "_law_product" (defArgs sLProd) (defBody sLProd) (defScope sLProd) .none kV20 dc20 pm20 an20 cd20 ct20), sl20⟩) (c20 : PySem.W.codeIn K cd20 "_law_product" = true) (k20 : PySem.W.keepIn K (.ref f20) = true)
    (a21 : PySem.W.nsIn K mainGlobals "_law_sum" = some (some (.ref f21))) (l21 : K.lookup f21 = some ⟨oc21, od21, .func (PySem.W.fnOf "_law_sum" "_law_sum" (defArgs sLSum) (defBody sLSum) (defScope sLSum) .none kV21 dc21 pm21 an21 cd21 ct21), sl21⟩) (c21 : PySem.W.codeIn K cd21 "_law_sum" = true) (k21 : PySem.W.keepIn K (.ref f21) = true)
    (a22 : PySem.W.nsIn K mainGlobals "_law_squares" = some (some (.ref f22))) (l22 : K.lookup f22 = some ⟨oc22, od22, .func (PySem.W.fnOf "_law_squares" "_law_squares" (defArgs sLSq) (defBody sLSq) (defScope sLSq) .none kV22 dc22 pm22 an22 cd22 ct22), sl22⟩) (c22 : PySem.W.codeIn K cd22 "_law_squares" = true) (k22 : PySem.W.keepIn K (.ref f22) = true)
    (a23 : PySem.W.nsIn K mainGlobals "_law_orbit" = some (some (.ref f23))) (l23 : K.lookup f23 = some ⟨oc23, od23, .func (PySem.W.fnOf "_law_orbit" "_law_orbit" (defArgs sLOrbit) (defBody sLOrbit) (defScope sLOrbit) .none kV23 dc23 pm23 an23 cd23 ct23), sl23⟩) (c23 : PySem.W.codeIn K cd23 "_law_orbit" = true) (k23 : PySem.W.keepIn K (.ref f23) = true)
    (a24 : PySem.W.nsIn K mainGlobals "_law_right" = some (some (.ref f24))) (l24 : K.lookup f24 = some ⟨oc24, od24, .func (PySem.W.fnOf "_law_right" "_law_right" (defArgs sLRight) (defBody sLRight) (defScope sLRight) .none kV24 dc24 pm24 an24 cd24 ct24), sl24⟩) (c24 : PySem.W.codeIn K cd24 "_law_right" = true) (k24 : PySem.W.keepIn K (.ref f24) = true)
    (a25 : PySem.W.nsIn K mainGlobals "law" = some (some (.ref f25))) (l25 : K.lookup f25 = some ⟨oc25, od25, .func (PySem.W.fnOf "law" "law" (defArgs sLaw) (defBody sLaw) (defScope sLaw) .none kV25 dc25 pm25 an25 cd25 ct25), sl25⟩) (c25 : PySem.W.codeIn K cd25 "law" = true) (k25 : PySem.W.keepIn K (.ref f25) = true)
    (z1 : PySem.W.nsIn K mainGlobals "isinstance" = some none)
    (z2 : PySem.W.nsIn K mainGlobals "int" = some none)
    (z3 : PySem.W.nsIn K mainGlobals "bool" = some none)
    (z4 : PySem.W.nsIn K mainGlobals "str" = some none)
    (z5 : PySem.W.nsIn K mainGlobals "tuple" = some none)
    (z6 : PySem.W.nsIn K mainGlobals "list" = some none)
    (z7 : PySem.W.nsIn K mainGlobals "set" = some none)
    (z8 : PySem.W.nsIn K mainGlobals "dict" = some none)
    (z9 : PySem.W.nsIn K mainGlobals "len" = some none)
    (z10 : PySem.W.nsIn K mainGlobals "all" = some none)
    (z11 : PySem.W.nsIn K mainGlobals "abs" = some none)
    (z12 : PySem.W.nsIn K mainGlobals "sum" = some none)
    (z13 : PySem.W.nsIn K mainGlobals "max" = some none)
    (z14 : PySem.W.nsIn K mainGlobals "sorted" = some none)
    (z15 : PySem.W.nsIn K mainGlobals "range" = some none)
    (z16 : PySem.W.nsIn K mainGlobals "zip" = some none)
    (z17 : PySem.W.nsIn K mainGlobals "divmod" = some none)
    (w1 : PySem.W.nsIn K mainGlobals "WORD" = some (some (.str "product" t1)))
    (w2 : PySem.W.nsIn K mainGlobals "MOST_STEPS" = some (some (.int 12 t2)))
    (w3 : PySem.W.nsIn K mainGlobals "MOST_STEP_products" = some (some (.int 60 t3)))
    (w4 : PySem.W.nsIn K mainGlobals "MOST_POWER" = some (some (.int 60 t4)))
    (w5 : PySem.W.nsIn K mainGlobals "MOST_STEP_orbits" = some (some (.int 30 t5))) :
    ∃ fd : FuncData, (∀ (s : Shared) (v : Value), BindsTo s fd ⟨[v], []⟩ [("_law_script", v)]) ∧ ∀ base : Heap, K.In base → base.Ns mainGlobals mg → FnOk l.prog w K mg base CX0 8 fa fd ["_law_script"] (spLaw K) := by
  have e := hfa.symm.trans (PySem.W.mg_of X G a25)
  cases e
  have F1 := fun_mk (st := sIsInt) l1 c1 k1
  have b1 := F1.binds (ps := ["value"]) fun _ _ _ _ _ _ us hl => match us, hl with | [_], _ => rfl
  have F2 := fun_mk (st := sIsCount) l2 c2 k2
  have b2 := F2.binds (ps := ["value"]) fun _ _ _ _ _ _ us hl => match us, hl with | [_], _ => rfl
  have F3 := fun_mk (st := sGcd) l3 c3 k3
  have b3 := F3.binds (ps := ["first", "second"]) fun _ _ _ _ _ _ us hl => match us, hl with | [_, _], _ => rfl
  have F4 := fun_mk (st := sPair) l4 c4 k4
  have b4 := F4.binds (ps := ["value"]) fun _ _ _ _ _ _ us hl => match us, hl with | [_], _ => rfl
  have F5 := fun_mk (st := sIsProd) l5 c5 k5
  have b5 := F5.binds (ps := ["value"]) fun _ _ _ _ _ _ us hl => match us, hl with | [_], _ => rfl
  have F6 := fun_mk (st := sWantProd) l6 c6 k6
  have b6 := F6.binds (ps := ["value"]) fun _ _ _ _ _ _ us hl => match us, hl with | [_], _ => rfl
  have F7 := fun_mk (st := sStepSum) l7 c7 k7
  have b7 := F7.binds (ps := ["product"]) fun _ _ _ _ _ _ us hl => match us, hl with | [_], _ => rfl
  have F8 := fun_mk (st := sSqBy) l8 c8 k8
  have b8 := F8.binds (ps := ["m"]) fun _ _ _ _ _ _ us hl => match us, hl with | [_], _ => rfl
  have F9 := fun_mk (st := sOrbitOf) l9 c9 k9
  have b9 := F9.binds (ps := ["product", "m", "t"]) fun _ _ _ _ _ _ us hl => match us, hl with | [_, _, _], _ => rfl
  have F10 := fun_mk (st := sOrbitsOf) l10 c10 k10
  have b10 := F10.binds (ps := ["product", "m"]) fun _ _ _ _ _ _ us hl => match us, hl with | [_, _], _ => rfl
  have F11 := fun_mk (st := sWantStep) l11 c11 k11
  have b11 := F11.binds (ps := ["m"]) fun _ _ _ _ _ _ us hl => match us, hl with | [_], _ => rfl
  have F12 := fun_mk (st := sWantSec) l12 c12 k12
  have b12 := F12.binds (ps := ["product", "m", "t"]) fun _ _ _ _ _ _ us hl => match us, hl with | [_, _, _], _ => rfl
  have F13 := fun_mk (st := sSqOf) l13 c13 k13
  have b13 := F13.binds (ps := ["m"]) fun _ _ _ _ _ _ us hl => match us, hl with | [_], _ => rfl
  have e13 := kbn_of (ps := ["m"]) (ks := ["m"]) F13 fun _ _ _ _ _ _ us hl => match us, hl with | [_], _ => rfl
  have F14 := fun_mk (st := sOrbit) l14 c14 k14
  have b14 := F14.binds (ps := ["product", "m", "t"]) fun _ _ _ _ _ _ us hl => match us, hl with | [_, _, _], _ => rfl
  have e14 := kbn_of (ps := ["product", "m", "t"]) (ks := ["t", "m", "product"]) F14 fun _ _ _ _ _ _ us hl => match us, hl with | [_, _, _], _ => rfl
  have F15 := fun_mk (st := sOrbits) l15 c15 k15
  have b15 := F15.binds (ps := ["product", "m"]) fun _ _ _ _ _ _ us hl => match us, hl with | [_, _], _ => rfl
  have e15 := kbn_of (ps := ["product", "m"]) (ks := ["m", "product"]) F15 fun _ _ _ _ _ _ us hl => match us, hl with | [_, _], _ => rfl
  have F16 := fun_mk (st := sLPot) l16 c16 k16
  have b16 := F16.binds (ps := ["_law_script", "_law_k"]) fun _ _ _ _ _ _ us hl => match us, hl with | [_, _], _ => rfl
  have F17 := fun_mk (st := sLDraw) l17 c17 k17
  have b17 := F17.binds (ps := ["_law_pot_here", "_law_many"]) fun _ _ _ _ _ _ us hl => match us, hl with | [_, _], _ => rfl
  have F18 := fun_mk (st := sLPick) l18 c18 k18
  have b18 := F18.binds (ps := ["_law_pot_here", "_law_some"]) fun _ _ _ _ _ _ us hl => match us, hl with | [_, _], _ => rfl
  have F19 := fun_mk (st := sLGcd) l19 c19 k19
  have b19 := F19.binds (ps := ["_law_one", "_law_other"]) fun _ _ _ _ _ _ us hl => match us, hl with | [_, _], _ => rfl
  have F20 := fun_mk (st := sLProd) l20 c20 k20
  have b20 := F20.binds (ps := ["_law_pot_here"]) fun _ _ _ _ _ _ us hl => match us, hl with | [_], _ => rfl
  have F21 := fun_mk (st := sLSum) l21 c21 k21
  have b21 := F21.binds (ps := ["_law_product_here"]) fun _ _ _ _ _ _ us hl => match us, hl with | [_], _ => rfl
  have F22 := fun_mk (st := sLSq) l22 c22 k22
  have b22 := F22.binds (ps := ["_law_m"]) fun _ _ _ _ _ _ us hl => match us, hl with | [_], _ => rfl
  have F23 := fun_mk (st := sLOrbit) l23 c23 k23
  have b23 := F23.binds (ps := ["_law_product_here", "_law_m", "_law_t", "_law_squares_here"]) fun _ _ _ _ _ _ us hl => match us, hl with | [_, _, _, _], _ => rfl
  have F24 := fun_mk (st := sLRight) l24 c24 k24
  have b24 := F24.binds (ps := ["_law_pot_here"]) fun _ _ _ _ _ _ us hl => match us, hl with | [_], _ => rfl
  have F25 := fun_mk (st := sLaw) l25 c25 k25
  have T : Bl mg := ⟨PySem.W.mg_none_of X G z1, PySem.W.mg_none_of X G z2, PySem.W.mg_none_of X G z3, PySem.W.mg_none_of X G z4, PySem.W.mg_none_of X G z5, PySem.W.mg_none_of X G z6, PySem.W.mg_none_of X G z7, PySem.W.mg_none_of X G z8, PySem.W.mg_none_of X G z9, PySem.W.mg_none_of X G z10, PySem.W.mg_none_of X G z11, PySem.W.mg_none_of X G z12, PySem.W.mg_none_of X G z13, PySem.W.mg_none_of X G z14, PySem.W.mg_none_of X G z15, PySem.W.mg_none_of X G z16, PySem.W.mg_none_of X G z17⟩
  have C : Cn mg := ⟨⟨_, PySem.W.mg_of X G w1, ⟨_, rfl⟩⟩, ⟨_, PySem.W.mg_of X G w2, ⟨_, rfl⟩⟩, ⟨_, PySem.W.mg_of X G w3, ⟨_, rfl⟩⟩, ⟨_, PySem.W.mg_of X G w4, ⟨_, rfl⟩⟩, ⟨_, PySem.W.mg_of X G w5, ⟨_, rfl⟩⟩⟩
  have D : Defs K mg := ⟨⟨_, _, F1, b1, PySem.W.mg_of X G a1⟩, ⟨_, _, F2, b2, PySem.W.mg_of X G a2⟩, ⟨_, _, F3, b3, PySem.W.mg_of X G a3⟩, ⟨_, _, F4, b4, PySem.W.mg_of X G a4⟩, ⟨_, _, F5, b5, PySem.W.mg_of X G a5⟩, ⟨_, _, F6, b6, PySem.W.mg_of X G a6⟩, ⟨_, _, F7, b7, PySem.W.mg_of X G a7⟩, ⟨_, _, F8, b8, PySem.W.mg_of X G a8⟩, ⟨_, _, F9, b9, PySem.W.mg_of X G a9⟩, ⟨_, _, F10, b10, PySem.W.mg_of X G a10⟩, ⟨_, _, F11, b11, PySem.W.mg_of X G a11⟩, ⟨_, _, F12, b12, PySem.W.mg_of X G a12⟩⟩
  have L : LDefs K mg := ⟨D, ⟨_, _, F13, b13, PySem.W.mg_of X G a13, e13⟩, ⟨_, _, F14, b14, PySem.W.mg_of X G a14, e14⟩, ⟨_, _, F15, b15, PySem.W.mg_of X G a15, e15⟩, ⟨_, _, F16, b16, PySem.W.mg_of X G a16⟩, ⟨_, _, F17, b17, PySem.W.mg_of X G a17⟩, ⟨_, _, F18, b18, PySem.W.mg_of X G a18⟩, ⟨_, _, F19, b19, PySem.W.mg_of X G a19⟩, ⟨_, _, F20, b20, PySem.W.mg_of X G a20⟩, ⟨_, _, F21, b21, PySem.W.mg_of X G a21⟩, ⟨_, _, F22, b22, PySem.W.mg_of X G a22⟩, ⟨_, _, F23, b23, PySem.W.mg_of X G a23⟩, ⟨_, _, F24, b24, PySem.W.mg_of X G a24⟩⟩
  exact ⟨_, fun s v => .of_eq rfl, fun base _ _ => ok_law F25 L T C⟩
end K61
open PySem PySem.W PyProof.Rows
set_option maxRecDepth 100000 in
set_option maxHeartbeats 0 in
theorem PySem.Challenge.cw_etaparts_k61_whole_orbits_of_rests_holds : PySem.Challenge.rw_etaparts_k61_whole_orbits_of_rests.Holds := by
  w_on; o_law; k_head; (case hw => w_witness2)
  k_fill
  refine L2.walk_of (l := PySem.Challenge.rw_etaparts_k61_whole_orbits_of_rests) (n := 63) (k := 8) (x := "_law_script") (CX := fun _ => L2.CX0) (sp := fun w => K61.spLaw _) rfl (by decide) rfl ⟨rfl, by decide, by decide⟩ (fun w h Y => PySem.W.kIn_of Y) ?F (fun _ _ a ns hl _ hS => ⟨a, ns, rfl, hS, hl, fun _ => rfl⟩) (fun _ _ _ _ _ h => h)
  case F =>
    intro w mg fa h KX G hmg
    refine' K61.all_mk KX G hmg ?a1 ?l1 ?c1 ?k1 ?a2 ?l2 ?c2 ?k2 ?a3 ?l3 ?c3 ?k3 ?a4 ?l4 ?c4 ?k4 ?a5 ?l5 ?c5 ?k5 ?a6 ?l6 ?c6 ?k6 ?a7 ?l7 ?c7 ?k7 ?a8 ?l8 ?c8 ?k8 ?a9 ?l9 ?c9 ?k9 ?a10 ?l10 ?c10 ?k10 ?a11 ?l11 ?c11 ?k11 ?a12 ?l12 ?c12 ?k12 ?a13 ?l13 ?c13 ?k13 ?a14 ?l14 ?c14 ?k14 ?a15 ?l15 ?c15 ?k15 ?a16 ?l16 ?c16 ?k16 ?a17 ?l17 ?c17 ?k17 ?a18 ?l18 ?c18 ?k18 ?a19 ?l19 ?c19 ?k19 ?a20 ?l20 ?c20 ?k20 ?a21 ?l21 ?c21 ?k21 ?a22 ?l22 ?c22 ?k22 ?a23 ?l23 ?c23 ?k23 ?a24 ?l24 ?c24 ?k24 ?a25 ?l25 ?c25 ?k25 ?z1 ?z2 ?z3 ?z4 ?z5 ?z6 ?z7 ?z8 ?z9 ?z10 ?z11 ?z12 ?z13 ?z14 ?z15 ?z16 ?z17 ?w1 ?w2 ?w3 ?w4 ?w5
    (case a1 => k_is)
    (case l1 => k_is)
    (case c1 => k_is)
    (case k1 => k_is)
    (case a2 => k_is)
    (case l2 => k_is)
    (case c2 => k_is)
    (case k2 => k_is)
    (case a3 => k_is)
    (case l3 => k_is)
    (case c3 => k_is)
    (case k3 => k_is)
    (case a4 => k_is)
    (case l4 => k_is)
    (case c4 => k_is)
    (case k4 => k_is)
    (case a5 => k_is)
    (case l5 => k_is)
    (case c5 => k_is)
    (case k5 => k_is)
    (case a6 => k_is)
    (case l6 => k_is)
    (case c6 => k_is)
    (case k6 => k_is)
    (case a7 => k_is)
    (case l7 => k_is)
    (case c7 => k_is)
    (case k7 => k_is)
    (case a8 => k_is)
    (case l8 => k_is)
    (case c8 => k_is)
    (case k8 => k_is)
    (case a9 => k_is)
    (case l9 => k_is)
    (case c9 => k_is)
    (case k9 => k_is)
    (case a10 => k_is)
    (case l10 => k_is)
    (case c10 => k_is)
    (case k10 => k_is)
    (case a11 => k_is)
    (case l11 => k_is)
    (case c11 => k_is)
    (case k11 => k_is)
    (case a12 => k_is)
    (case l12 => k_is)
    (case c12 => k_is)
    (case k12 => k_is)
    (case a13 => k_is)
    (case l13 => k_is)
    (case c13 => k_is)
    (case k13 => k_is)
    (case a14 => k_is)
    (case l14 => k_is)
    (case c14 => k_is)
    (case k14 => k_is)
    (case a15 => k_is)
    (case l15 => k_is)
    (case c15 => k_is)
    (case k15 => k_is)
    (case a16 => k_is)
    (case l16 => k_is)
    (case c16 => k_is)
    (case k16 => k_is)
    (case a17 => k_is)
    (case l17 => k_is)
    (case c17 => k_is)
    (case k17 => k_is)
    (case a18 => k_is)
    (case l18 => k_is)
    (case c18 => k_is)
    (case k18 => k_is)
    (case a19 => k_is)
    (case l19 => k_is)
    (case c19 => k_is)
    (case k19 => k_is)
    (case a20 => k_is)
    (case l20 => k_is)
    (case c20 => k_is)
    (case k20 => k_is)
    (case a21 => k_is)
    (case l21 => k_is)
    (case c21 => k_is)
    (case k21 => k_is)
    (case a22 => k_is)
    (case l22 => k_is)
    (case c22 => k_is)
    (case k22 => k_is)
    (case a23 => k_is)
    (case l23 => k_is)
    (case c23 => k_is)
    (case k23 => k_is)
    (case a24 => k_is)
    (case l24 => k_is)
    (case c24 => k_is)
    (case k24 => k_is)
    (case a25 => k_is)
    (case l25 => k_is)
    (case c25 => k_is)
    (case k25 => k_is)
    (case z1 => k_is)
    (case z2 => k_is)
    (case z3 => k_is)
    (case z4 => k_is)
    (case z5 => k_is)
    (case z6 => k_is)
    (case z7 => k_is)
    (case z8 => k_is)
    (case z9 => k_is)
    (case z10 => k_is)
    (case z11 => k_is)
    (case z12 => k_is)
    (case z13 => k_is)
    (case z14 => k_is)
    (case z15 => k_is)
    (case z16 => k_is)
    (case z17 => k_is)
    (case w1 => k_is)
    (case w2 => k_is)
    (case w3 => k_is)
    (case w4 => k_is)
    (case w5 => k_is)
