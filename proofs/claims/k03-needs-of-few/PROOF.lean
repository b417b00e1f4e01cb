import PyProof.Rows.All
import Wide.All
import OpenK.AllK
import Wide.FinOn
import HandS.ForMost
import HandS.ForExc
import HandS.Evl
import HandS.IsInst
import HandS.TupAny
import HandS.Zip
import HandS.SetFor
import HandS.Replace
import HandS.Codes
import HandS.Sort
import KE.KDictKeyed
import KE.KeyNested
import KE.KTupSum
import PySem.Challenge.RW_lieask_k03_needs_of_few
set_option Elab.async false
set_option linter.all false
set_option maxRecDepth 100000
set_option maxHeartbeats 4000000
namespace LA
/-! ### ways to pick -/
def ch : Nat → Nat → Nat
  | _, 0 => 1
  | 0, _ + 1 => 0
  | n + 1, k + 1 => ch n k + ch n (k + 1)
theorem ch_zero (n : Nat) : ch n 0 = 1 := by cases n <;> rfl
theorem ch_big : ∀ (n k : Nat), n < k → ch n k = 0
  | 0, 0, h => by omega
  | 0, _ + 1, _ => rfl
  | n + 1, 0, h => by omega
  | n + 1, k + 1, h => by
    show ch n k + ch n (k + 1) = 0
    rw [ch_big n k (by omega), ch_big n (k + 1) (by omega)]
theorem ch_mul : ∀ (n k : Nat), k ≤ n → (k + 1) * ch n (k + 1) = (n - k) * ch n k
  | 0, 0, _ => rfl
  | 0, k + 1, h => by omega
  | n + 1, 0, _ => by
    have ih := ch_mul n 0 (by omega)
    rw [ch_zero] at ih
    show (0 + 1) * (ch n 0 + ch n (0 + 1)) = (n + 1 - 0) * ch (n + 1) 0
    rw [ch_zero, ch_zero]
    omega
  | n + 1, k + 1, h => by
    have ih1 := ch_mul n k (by omega)
    show (k + 1 + 1) * (ch n (k + 1) + ch n (k + 1 + 1)) = (n + 1 - (k + 1)) * (ch n k + ch n (k + 1))
    by_cases hk : k + 1 ≤ n
    · have ih2 := ch_mul n (k + 1) hk
      have e1 : n + 1 - (k + 1) = n - k := by omega
      rw [e1, Nat.mul_add, Nat.mul_add, ih2, ← ih1]
      have e2 : n - k = (n - (k + 1)) + 1 := by omega
      rw [e2]
      generalize ch n (k + 1) = a
      generalize n - (k + 1) = r
      rw [Nat.add_mul (k + 1) 1 a, Nat.add_mul r 1 a]
      omega
    · have e : k = n := by omega
      subst e
      rw [ch_big k (k + 1) (by omega), ch_big k (k + 1 + 1) (by omega)]
      simp
/-- the program's way to count them -/
def pk (n : Int) : Nat → Int
  | 0 => 1
  | k + 1 => pk n k * (n - (k : Int)) / ((k : Int) + 1)
theorem pk_ch (n : Nat) : ∀ k : Nat, pk (n : Int) k = (ch n k : Int)
  | 0 => by rw [ch_zero]; rfl
  | k + 1 => by
    show pk n k * ((n : Int) - (k : Int)) / ((k : Int) + 1) = (ch n (k + 1) : Int)
    rw [pk_ch n k]
    by_cases h : k ≤ n
    · have e := ch_mul n k h
      have e2 : ((ch n k : Int)) * ((n : Int) - (k : Int)) = ((k : Int) + 1) * (ch n (k + 1) : Int) := by
        have e3 : ((n : Int) - (k : Int)) = ((n - k : Nat) : Int) := by omega
        have e4 : ((k : Int) + 1) = ((k + 1 : Nat) : Int) := by omega
        rw [e3, e4, ← Int.natCast_mul, ← Int.natCast_mul, e, Nat.mul_comm]
      rw [e2, Int.mul_comm, Int.mul_ediv_cancel _ (by omega)]
    · rw [ch_big n k (by omega), ch_big n (k + 1) (by omega)]
      simp
/-- the sum of the first l -/
def wy (l q : Nat) : Nat := ((List.range l).map (ch q)).sum
theorem wy_zero (q : Nat) : wy 0 q = 0 := rfl
theorem wy_succ (l q : Nat) : wy (l + 1) q = wy l q + ch q l := by
  unfold wy
  rw [List.range_succ, List.map_append, List.sum_append]
  simp
theorem wy_pas (q : Nat) : ∀ l : Nat, wy (l + 1) (q + 1) = wy (l + 1) q + wy l q
  | 0 => by
    rw [wy_succ, wy_succ, wy_zero, wy_zero, ch_zero, ch_zero]
  | l + 1 => by
    rw [wy_succ (l + 1) (q + 1), wy_pas q l, wy_succ (l + 1) q, wy_succ l q]
    show _ + (ch q l + ch q (l + 1)) = _
    omega
theorem wy_nought : ∀ l : Nat, wy l 0 = if l = 0 then 0 else 1
  | 0 => rfl
  | 1 => rfl
  | l + 2 => by
    rw [wy_succ, wy_nought (l + 1)]
    rfl
theorem wy_le : ∀ (q l : Nat), wy l q ≤ 2 ^ q
  | 0, l => by
    rw [wy_nought]
    split <;> simp
  | q + 1, 0 => by rw [wy_zero]; exact Nat.zero_le _
  | q + 1, l + 1 => by
    rw [wy_pas, Nat.pow_succ]
    have := wy_le q (l + 1)
    have := wy_le q l
    omega
/-! ### marks -/
def stp (L x : Int) (b : Bool) : Int := if b = true ∨ L < x then x else x + 1
def aft (L : Int) (m : List Int) (bs : List Bool) (y : Bool) : List Int := List.zipWith (fun x b => stp L x (b == y)) m bs
def sta (L : Int) (m : List Int) : Nat := m.countP fun x => decide (x ≤ L)
def Gq (L : Int) : Nat → List Int → Prop
  | 0, m => sta L m ≤ 1
  | q + 1, m => sta L m ≤ 1 ∨ ∃ bs : List Bool, bs.length = m.length ∧ Gq L q (aft L m bs true) ∧ Gq L q (aft L m bs false)
def Wt (L : Int) (m : List Int) (q : Nat) : Nat := (m.map fun x => wy (L + 1 - x).toNat q).sum
theorem W_nil (L : Int) (q : Nat) : Wt L [] q = 0 := rfl
theorem W_cons (L : Int) (x : Int) (m : List Int) (q : Nat) : Wt L (x :: m) q = wy (L + 1 - x).toNat q + Wt L m q := by
  unfold Wt
  rw [List.map_cons, List.sum_cons]
theorem aft_cons (L x : Int) (m : List Int) (b : Bool) (bs : List Bool) (y : Bool) : aft L (x :: m) (b :: bs) y = stp L x (b == y) :: aft L m bs y := rfl
theorem aft_len {L : Int} {m : List Int} {bs : List Bool} {y : Bool} (h : bs.length = m.length) : (aft L m bs y).length = m.length := by
  unfold aft
  rw [List.length_zipWith, h, Nat.min_self]
theorem sta_cons (L x : Int) (m : List Int) : sta L (x :: m) = sta L m + if x ≤ L then 1 else 0 := by
  unfold sta
  rw [List.countP_cons]
  simp
theorem wy_stp (L x : Int) (q : Nat) : wy (L + 1 - x).toNat (q + 1) = wy (L + 1 - stp L x true).toNat q + wy (L + 1 - stp L x false).toNat q := by
  unfold stp
  by_cases h : L < x
  · have e : (L + 1 - x).toNat = 0 := by omega
    simp [h, e, wy_zero]
  · have e : (L + 1 - x).toNat = (L + 1 - (x + 1)).toNat + 1 := by omega
    simp only [if_true, h, or_false, if_false, Bool.false_eq_true, e]
    exact wy_pas q _
theorem W_split (L : Int) (q : Nat) : ∀ (m : List Int) (bs : List Bool), bs.length = m.length → Wt L m (q + 1) = Wt L (aft L m bs true) q + Wt L (aft L m bs false) q
  | [], [], _ => rfl
  | [], _ :: _, h => by simp at h
  | _ :: _, [], h => by simp at h
  | x :: m, b :: bs, h => by
    have ih := W_split L q m bs (by simpa using h)
    rw [aft_cons, aft_cons, W_cons, W_cons, W_cons, ih]
    have e := wy_stp L x q
    cases b
    · show _ = wy (L + 1 - stp L x false).toNat q + _ + (wy (L + 1 - stp L x true).toNat q + _)
      omega
    · show _ = wy (L + 1 - stp L x true).toNat q + _ + (wy (L + 1 - stp L x false).toNat q + _)
      omega
theorem W_zero (L : Int) : ∀ m : List Int, Wt L m 0 = sta L m
  | [] => rfl
  | x :: m => by
    rw [W_cons, sta_cons, W_zero L m, wy_nought]
    by_cases h : x ≤ L
    · rw [if_neg (by omega), if_pos h]; omega
    · rw [if_pos (by omega), if_neg h]; omega
theorem W_sta (L : Int) (q : Nat) : ∀ m : List Int, Wt L m q ≤ sta L m * 2 ^ q
  | [] => by rw [W_nil]; exact Nat.zero_le _
  | x :: m => by
    rw [W_cons, sta_cons]
    have ih := W_sta L q m
    by_cases h : x ≤ L
    · rw [if_pos h, Nat.add_mul]
      have := wy_le q (L + 1 - x).toNat
      omega
    · rw [if_neg h, show (L + 1 - x).toNat = 0 by omega, wy_zero, Nat.add_zero]
      omega
theorem G_vol {L : Int} : ∀ {q : Nat} {m : List Int}, Gq L q m → Wt L m q ≤ 2 ^ q
  | 0, m, h => by
    rw [W_zero]
    exact h
  | q + 1, m, h => by
    rcases h with h | ⟨bs, hl, h1, h2⟩
    · have := W_sta L (q + 1) m
      have z : sta L m * 2 ^ (q + 1) ≤ 1 * 2 ^ (q + 1) := Nat.mul_le_mul_right _ h
      omega
    · rw [W_split L q m bs hl, Nat.pow_succ]
      have := G_vol h1
      have := G_vol h2
      omega
theorem G_found {L : Int} {m : List Int} (h : sta L m ≤ 1) : ∀ q : Nat, Gq L q m
  | 0 => h
  | _ + 1 => .inl h
theorem G_succ {L : Int} : ∀ {q : Nat} {m : List Int}, Gq L q m → Gq L (q + 1) m
  | 0, m, h => .inl h
  | q + 1, m, h => by
    rcases h with h | ⟨bs, hl, h1, h2⟩
    · exact .inl h
    · exact .inr ⟨bs, hl, G_succ h1, G_succ h2⟩
theorem G_up {L : Int} {q r : Nat} {m : List Int} (h : Gq L q m) (hr : q ≤ r) : Gq L r m := by
  induction hr with
  | refl => exact h
  | step _ ih => exact G_succ ih
/-! marks that are no less -/
inductive LeL : List Int → List Int → Prop
  | nil : LeL [] []
  | cons {x y m n} : x ≤ y → LeL m n → LeL (x :: m) (y :: n)
theorem LeL.refl : ∀ m : List Int, LeL m m
  | [] => .nil
  | _ :: m => .cons (Int.le_refl _) (LeL.refl m)
theorem LeL.len {m n : List Int} (h : LeL m n) : m.length = n.length := by
  induction h with
  | nil => rfl
  | cons _ _ ih => simp [ih]
theorem LeL.sta {L : Int} {m n : List Int} (h : LeL m n) : LA.sta L n ≤ LA.sta L m := by
  induction h with
  | nil => exact Nat.le_refl _
  | @cons x y m n h _ ih =>
    rw [sta_cons, sta_cons]
    by_cases hy : y ≤ L
    · rw [if_pos hy, if_pos (by omega)]; omega
    · rw [if_neg hy]; omega
theorem stp_le {L x y : Int} (h : x ≤ y) (b : Bool) : stp L x b ≤ stp L y b := by
  unfold stp
  cases b <;> simp <;> grind
theorem LeL.aft {L : Int} {m n : List Int} (h : LeL m n) (y : Bool) : ∀ bs : List Bool, LeL (LA.aft L m bs y) (LA.aft L n bs y) := by
  induction h with
  | nil => intro bs; cases bs <;> exact .nil
  | cons h _ ih =>
    intro bs
    cases bs with
    | nil => exact .nil
    | cons b bs => exact .cons (stp_le h _) (ih bs)
theorem G_le {L : Int} : ∀ {q : Nat} {m n : List Int}, LeL m n → Gq L q m → Gq L q n
  | 0, m, n, e, h => Nat.le_trans (e.sta) h
  | q + 1, m, n, e, h => by
    rcases h with h | ⟨bs, hl, h1, h2⟩
    · exact .inl (Nat.le_trans e.sta h)
    · exact .inr ⟨bs, by rw [hl, e.len], G_le (e.aft true bs) h1, G_le (e.aft false bs) h2⟩
/-! some number of questions is enough -/
def ph (L : Int) (m : List Int) : Nat := (m.map fun x => (L + 1 - x).toNat).sum
theorem ph_cons (L x : Int) (m : List Int) : ph L (x :: m) = (L + 1 - x).toNat + ph L m := by
  unfold ph
  rw [List.map_cons, List.sum_cons]
theorem aft_told (L : Int) (y : Bool) : ∀ m : List Int, aft L m (List.replicate m.length y) y = m
  | [] => rfl
  | x :: m => by
    show stp L x (y == y) :: aft L m (List.replicate m.length y) y = x :: m
    rw [aft_told L y m]
    simp [stp]
theorem ph_stp (L : Int) (x : Int) (b : Bool) : (L + 1 - stp L x b).toNat ≤ (L + 1 - x).toNat := by
  unfold stp
  split <;> omega
theorem ph_aft_le (L : Int) (y : Bool) : ∀ (m : List Int) (bs : List Bool), bs.length = m.length → ph L (aft L m bs y) ≤ ph L m
  | [], [], _ => Nat.le_refl _
  | [], _ :: _, h => by simp at h
  | _ :: _, [], h => by simp at h
  | x :: m, b :: bs, h => by
    rw [aft_cons, ph_cons, ph_cons]
    have := ph_aft_le L y m bs (by simpa using h)
    have := ph_stp L x (b == y)
    omega
theorem ph_not (L : Int) (y : Bool) : ∀ m : List Int, 1 ≤ sta L m → ph L (aft L m (List.replicate m.length (!y)) y) < ph L m
  | [], h => by simp [sta] at h
  | x :: m, h => by
    show ph L (stp L x ((!y) == y) :: aft L m (List.replicate m.length (!y)) y) < ph L (x :: m)
    rw [ph_cons, ph_cons]
    have e : ((!y) == y) = false := by cases y <;> rfl
    rw [e]
    by_cases hx : x ≤ L
    · have := ph_aft_le L y m (List.replicate m.length (!y)) (by simp)
      have e2 : stp L x false = x + 1 := by
        unfold stp
        rw [if_neg (by simp; omega)]
      rw [e2]
      omega
    · rw [sta_cons, if_neg hx] at h
      have := ph_not L y m (by omega)
      have := ph_stp L x false
      omega
theorem ph_some (L : Int) : ∀ m : List Int, 2 ≤ sta L m → ∃ bs : List Bool, bs.length = m.length ∧ ph L (aft L m bs true) < ph L m ∧ ph L (aft L m bs false) < ph L m
  | [], h => by simp [sta] at h
  | x :: m, h => by
    rw [sta_cons] at h
    by_cases hx : x ≤ L
    · rw [if_pos hx] at h
      refine ⟨true :: List.replicate m.length false, by simp, ?_, ?_⟩
      · rw [aft_cons, ph_cons, ph_cons]
        have := ph_not L true m (by omega)
        have := ph_stp L x (true == true)
        simp only [Bool.not_true] at *
        omega
      · rw [aft_cons, ph_cons, ph_cons, aft_told]
        have e2 : stp L x (true == false) = x + 1 := by
          unfold stp
          rw [if_neg (by simp; omega)]
        rw [e2]
        omega
    · rw [if_neg hx] at h
      obtain ⟨bs, hl, h1, h2⟩ := ph_some L m (by omega)
      refine ⟨false :: bs, by simp [hl], ?_, ?_⟩
      · rw [aft_cons, ph_cons, ph_cons]
        have := ph_stp L x (false == true)
        omega
      · rw [aft_cons, ph_cons, ph_cons]
        have := ph_stp L x (false == false)
        omega
theorem G_ph {L : Int} : ∀ (n : Nat) (m : List Int), ph L m ≤ n → Gq L n m
  | 0, m, h => by
    by_cases hs : sta L m ≤ 1
    · exact hs
    · obtain ⟨bs, _, h1, _⟩ := ph_some L m (by omega)
      omega
  | n + 1, m, h => by
    by_cases hs : sta L m ≤ 1
    · exact .inl hs
    · obtain ⟨bs, hl, h1, h2⟩ := ph_some L m (by omega)
      exact .inr ⟨bs, hl, G_ph n _ (by omega), G_ph n _ (by omega)⟩
theorem ph_bound {L : Int} {k : Nat} : ∀ m : List Int, (∀ x ∈ m, 0 ≤ x) → L + 1 ≤ k → ph L m ≤ k * m.length
  | [], _, _ => by simp [ph]
  | x :: m, h, hk => by
    rw [ph_cons, List.length_cons, Nat.mul_add]
    have := ph_bound m (fun y hy => h y (List.mem_cons_of_mem _ hy)) hk
    have := h x List.mem_cons_self
    omega
end LA

namespace LA
/-! ### how many things have each mark -/
def cnt (L : Nat) (m : List Int) : List Nat := (List.range (L + 1)).map fun (k : Nat) => m.count (k : Int)
def mvd (cs s : List Nat) : List Nat := s.getD 0 0 :: (List.range (cs.length - 1)).map fun k => s.getD (k + 1) 0 + cs.getD k 0 - s.getD k 0
def lft (cs s : List Nat) : List Nat := List.zipWith (fun a b => a - b) cs s
def wct (cs : List Nat) (q : Nat) : Nat := ((List.range cs.length).map fun k => cs.getD k 0 * wy (cs.length - k) q).sum
def heavy (cs : List Nat) (q : Nat) : Bool := decide (2 ^ q < wct cs q)
def prt1 (found : List (List Nat)) (c : Nat) : List (List Nat) := found.flatMap fun t => (List.range (c + 1)).map fun s => t ++ [s]
def prt (cs : List Nat) : List (List Nat) := cs.foldl prt1 [[]]
def En : Nat → List Nat → Bool
  | 0, cs => decide (cs.sum ≤ 1)
  | q + 1, cs => decide (cs.sum ≤ 1) || (!heavy cs (q + 1) && (prt cs).any fun t => En q (mvd cs t) && En q (mvd cs (lft cs t)))
theorem cnt_len (L : Nat) (m : List Int) : (cnt L m).length = L + 1 := by simp [cnt]
theorem cnt_get {L : Nat} {m : List Int} {k : Nat} (h : k ≤ L) : (cnt L m).getD k 0 = m.count (k : Int) := by
  unfold cnt
  rw [List.getD_eq_getElem?_getD, List.getElem?_map, List.getElem?_range (by omega)]
  rfl
/-! all ways to take of each -/
inductive Tk : List Nat → List Nat → Prop
  | nil : Tk [] []
  | cons {t c ts cs} : t ≤ c → Tk ts cs → Tk (t :: ts) (c :: cs)
theorem Tk.len {t cs : List Nat} (h : Tk t cs) : t.length = cs.length := by
  induction h with
  | nil => rfl
  | cons _ _ ih => simp [ih]
theorem Tk.get {t cs : List Nat} (h : Tk t cs) : ∀ k : Nat, t.getD k 0 ≤ cs.getD k 0 := by
  induction h with
  | nil => intro k; simp
  | cons h _ ih =>
    intro k
    cases k with
    | zero => exact h
    | succ k => exact ih k
theorem Tk.of : ∀ {t cs : List Nat}, t.length = cs.length → (∀ k : Nat, t.getD k 0 ≤ cs.getD k 0) → Tk t cs
  | [], [], _, _ => .nil
  | [], _ :: _, h, _ => by simp at h
  | _ :: _, [], h, _ => by simp at h
  | a :: t, b :: cs, h, g => .cons (g 0) (Tk.of (by simpa using h) fun k => g (k + 1))
theorem mem_prt1 {found : List (List Nat)} {c : Nat} {u : List Nat} : u ∈ prt1 found c ↔ ∃ t ∈ found, ∃ s, s ≤ c ∧ u = t ++ [s] := by
  unfold prt1
  simp only [List.mem_flatMap, List.mem_map, List.mem_range]
  constructor
  · rintro ⟨t, ht, s, hs, rfl⟩
    exact ⟨t, ht, s, by omega, rfl⟩
  · rintro ⟨t, ht, s, hs, rfl⟩
    exact ⟨t, ht, s, by omega, rfl⟩
theorem mem_fold : ∀ (cs : List Nat) (found : List (List Nat)) (u : List Nat), u ∈ cs.foldl prt1 found ↔ ∃ t ∈ found, ∃ v, Tk v cs ∧ u = t ++ v
  | [], found, u => by
    constructor
    · intro h
      exact ⟨u, h, [], .nil, by simp⟩
    · rintro ⟨t, ht, v, hv, rfl⟩
      cases hv
      simpa using ht
  | c :: cs, found, u => by
    show u ∈ cs.foldl prt1 (prt1 found c) ↔ _
    rw [mem_fold cs (prt1 found c) u]
    constructor
    · rintro ⟨t, ht, v, hv, rfl⟩
      obtain ⟨t', ht', s, hs, rfl⟩ := mem_prt1.mp ht
      exact ⟨t', ht', s :: v, .cons hs hv, by simp⟩
    · rintro ⟨t, ht, v, hv, rfl⟩
      cases hv with
      | @cons s _ v _ hs hv => exact ⟨t ++ [s], mem_prt1.mpr ⟨t, ht, s, hs, rfl⟩, v, hv, by simp⟩
theorem mem_prt {cs u : List Nat} : u ∈ prt cs ↔ Tk u cs := by
  unfold prt
  rw [mem_fold]
  constructor
  · rintro ⟨t, ht, v, hv, rfl⟩
    have e : t = [] := by simpa using ht
    subst e
    exact hv
  · intro h
    exact ⟨[], by simp, u, h, rfl⟩
/-! what a question takes of each mark -/
def tk1 (k : Int) (m : List Int) (bs : List Bool) : Nat := (m.zip bs).countP fun p => decide (p.1 = k) && p.2
def tkn (L : Nat) (m : List Int) (bs : List Bool) : List Nat := (List.range (L + 1)).map fun (k : Nat) => tk1 (k : Int) m bs
theorem tkn_len (L : Nat) (m : List Int) (bs : List Bool) : (tkn L m bs).length = L + 1 := by simp [tkn]
theorem tkn_get {L : Nat} {m : List Int} {bs : List Bool} {k : Nat} (h : k ≤ L) : (tkn L m bs).getD k 0 = tk1 (k : Int) m bs := by
  unfold tkn
  rw [List.getD_eq_getElem?_getD, List.getElem?_map, List.getElem?_range (by omega)]
  rfl
theorem tk1_cons (k x : Int) (m : List Int) (b : Bool) (bs : List Bool) : tk1 k (x :: m) (b :: bs) = tk1 k m bs + if x = k ∧ b = true then 1 else 0 := by
  unfold tk1
  rw [List.zip_cons_cons, List.countP_cons]
  simp
theorem count_cons' (k x : Int) (m : List Int) : (x :: m).count k = m.count k + if x = k then 1 else 0 := by
  rw [List.count_cons]
  simp
theorem tk1_le (k : Int) : ∀ (m : List Int) (bs : List Bool), tk1 k m bs ≤ m.count k
  | [], bs => by simp [tk1]
  | x :: m, [] => by simp [tk1]
  | x :: m, b :: bs => by
    rw [tk1_cons, count_cons']
    have := tk1_le k m bs
    by_cases h : x = k <;> cases b <;> simp [h] <;> omega
theorem aft_nought {L : Nat} : ∀ (m : List Int) (bs : List Bool), bs.length = m.length → (∀ x ∈ m, 0 ≤ x) → (aft L m bs true).count 0 = tk1 0 m bs
  | [], [], _, _ => rfl
  | [], _ :: _, h, _ => by simp at h
  | _ :: _, [], h, _ => by simp at h
  | x :: m, b :: bs, h, hx => by
    rw [aft_cons, tk1_cons, count_cons', aft_nought m bs (by simpa using h) fun y hy => hx y (List.mem_cons_of_mem _ hy)]
    have h0 := hx x List.mem_cons_self
    unfold stp
    cases b <;> simp <;> grind
theorem aft_more {L : Nat} {k : Nat} (hk : k + 1 ≤ L) : ∀ (m : List Int) (bs : List Bool), bs.length = m.length → (∀ x ∈ m, 0 ≤ x) →
    (aft L m bs true).count ((k + 1 : Nat) : Int) + tk1 (k : Int) m bs = tk1 ((k + 1 : Nat) : Int) m bs + m.count (k : Int)
  | [], [], _, _ => rfl
  | [], _ :: _, h, _ => by simp at h
  | _ :: _, [], h, _ => by simp at h
  | x :: m, b :: bs, h, hx => by
    rw [aft_cons, tk1_cons, tk1_cons, count_cons', count_cons']
    have ih := aft_more hk m bs (by simpa using h) fun y hy => hx y (List.mem_cons_of_mem _ hy)
    have h0 := hx x List.mem_cons_self
    unfold stp
    cases b <;> simp <;> grind
theorem cnt_true {L : Nat} {m : List Int} {bs : List Bool} (h : bs.length = m.length) (hx : ∀ x ∈ m, 0 ≤ x) : cnt L (aft L m bs true) = mvd (cnt L m) (tkn L m bs) := by
  unfold mvd
  rw [cnt_len]
  show (List.range (L + 1)).map _ = _
  rw [List.range_succ_eq_map, List.map_cons, List.map_map]
  congr 1
  · rw [tkn_get (Nat.zero_le _)]
    exact aft_nought m bs h hx
  · refine List.map_congr_left fun k hk => ?_
    have hk' : k + 1 ≤ L := by
      have := List.mem_range.mp hk
      omega
    rw [tkn_get hk', tkn_get (by omega), cnt_get (by omega)]
    have := aft_more hk' m bs h hx
    have := tk1_le (k : Int) m bs
    show (aft L m bs true).count ((k + 1 : Nat) : Int) = _
    omega
theorem aft_false {L : Int} : ∀ (m : List Int) (bs : List Bool), aft L m bs false = aft L m (bs.map (!·)) true
  | [], bs => by cases bs <;> rfl
  | x :: m, [] => rfl
  | x :: m, b :: bs => by
    show stp L x (b == false) :: aft L m bs false = stp L x ((!b) == true) :: aft L m (bs.map (!·)) true
    rw [aft_false m bs]
    cases b <;> rfl
theorem tk1_not {k : Int} : ∀ (m : List Int) (bs : List Bool), bs.length = m.length → tk1 k m (bs.map (!·)) + tk1 k m bs = m.count k
  | [], [], _ => rfl
  | [], _ :: _, h => by simp at h
  | _ :: _, [], h => by simp at h
  | x :: m, b :: bs, h => by
    rw [List.map_cons, tk1_cons, tk1_cons, count_cons']
    have ih := tk1_not (k := k) m bs (by simpa using h)
    by_cases hx : x = k <;> cases b <;> simp [hx] <;> omega
theorem tkn_not {L : Nat} {m : List Int} {bs : List Bool} (h : bs.length = m.length) : tkn L m (bs.map (!·)) = lft (cnt L m) (tkn L m bs) := by
  unfold lft
  refine List.ext_getElem? fun k => ?_
  unfold tkn cnt
  rw [List.getElem?_zipWith, List.getElem?_map, List.getElem?_map, List.getElem?_map]
  by_cases hk : k < L + 1
  · rw [List.getElem?_range hk]
    have := tk1_not (k := (k : Int)) m bs h
    show some (tk1 (k : Int) m (bs.map (!·))) = some (m.count (k : Int) - tk1 (k : Int) m bs)
    congr 1
    omega
  · rw [List.getElem?_eq_none (by simp; omega)]
    rfl
theorem cnt_false {L : Nat} {m : List Int} {bs : List Bool} (h : bs.length = m.length) (hx : ∀ x ∈ m, 0 ≤ x) : cnt L (aft L m bs false) = mvd (cnt L m) (lft (cnt L m) (tkn L m bs)) := by
  rw [aft_false, cnt_true (by simpa using h) hx, tkn_not h]
theorem tkn_tk {L : Nat} (m : List Int) (bs : List Bool) : Tk (tkn L m bs) (cnt L m) := by
  refine Tk.of (by rw [tkn_len, cnt_len]) fun k => ?_
  by_cases hk : k ≤ L
  · rw [tkn_get hk, cnt_get hk]
    exact tk1_le _ m bs
  · rw [List.getD_eq_getElem?_getD, List.getElem?_eq_none (by rw [tkn_len]; omega)]
    exact Nat.zero_le _
/-! a question that takes so many -/
def grd (L : Nat) : List Int → List Nat → List Bool
  | [], _ => []
  | x :: m, t => if x ≤ (L : Int) ∧ 0 < t.getD x.toNat 0 then true :: grd L m (t.set x.toNat (t.getD x.toNat 0 - 1)) else false :: grd L m t
theorem grd_len (L : Nat) : ∀ (m : List Int) (t : List Nat), (grd L m t).length = m.length
  | [], _ => rfl
  | x :: m, t => by
    unfold grd
    split <;> simp [grd_len L m]
theorem getD_set (t : List Nat) (i k a : Nat) : (t.set i a).getD k 0 = if i = k ∧ k < t.length then a else t.getD k 0 := by
  rw [List.getD_eq_getElem?_getD, List.getElem?_set, List.getD_eq_getElem?_getD]
  by_cases h : i = k
  · subst h
    by_cases h2 : i < t.length
    · simp [h2]
    · simp [h2]
  · simp [h]
theorem grd_tk1 {L : Nat} {k : Nat} (hk : k ≤ L) : ∀ (m : List Int) (t : List Nat), (∀ x ∈ m, 0 ≤ x) → t.length = L + 1 → tk1 (k : Int) m (grd L m t) = min (t.getD k 0) (m.count (k : Int))
  | [], t, _, _ => by simp [tk1]
  | x :: m, t, hx, hl => by
    have h0 := hx x List.mem_cons_self
    have hx' : ∀ y ∈ m, 0 ≤ y := fun y hy => hx y (List.mem_cons_of_mem _ hy)
    unfold grd
    by_cases h : x ≤ (L : Int) ∧ 0 < t.getD x.toNat 0
    · rw [if_pos h, tk1_cons, count_cons', grd_tk1 hk m _ hx' (by simpa using hl), getD_set]
      by_cases hxk : x = (k : Int)
      · have e : x.toNat = k := by omega
        rw [e] at h ⊢
        rw [if_pos ⟨rfl, by omega⟩]
        simp only [hxk, true_and, if_true]
        omega
      · rw [if_neg (by omega)]
        simp [hxk]
    · rw [if_neg h, tk1_cons, count_cons', grd_tk1 hk m t hx' hl]
      by_cases hxk : x = (k : Int)
      · have e : x.toNat = k := by omega
        rw [e] at h
        have z : t.getD k 0 = 0 := by omega
        rw [z, Nat.zero_min, Nat.zero_min, if_neg (by simp)]
      · simp [hxk]
theorem tkn_grd {L : Nat} {m : List Int} {t : List Nat} (hx : ∀ x ∈ m, 0 ≤ x) (ht : Tk t (cnt L m)) : tkn L m (grd L m t) = t := by
  have hl : t.length = L + 1 := by rw [ht.len, cnt_len]
  refine List.ext_getElem? fun k => ?_
  unfold tkn
  rw [List.getElem?_map]
  by_cases hk : k < L + 1
  · rw [List.getElem?_range hk]
    show some (tk1 (k : Int) m (grd L m t)) = _
    rw [grd_tk1 (by omega) m t hx hl]
    have e := ht.get k
    rw [cnt_get (by omega)] at e
    rw [Nat.min_eq_left e, List.getD_eq_getElem?_getD, List.getElem?_eq_getElem (by omega)]
    rfl
  · rw [List.getElem?_eq_none (by simp; omega), List.getElem?_eq_none (by omega)]
    rfl
/-! counts and marks tell the same -/
theorem sum_zip : ∀ (f : Nat → Nat) (n : Nat) (i : Nat), i < n → ((List.range n).map fun k => if i = k then f k else 0).sum = f i := by
  intro f n
  induction n with
  | zero => intro i h; omega
  | succ n ih =>
    intro i h
    rw [List.range_succ, List.map_append, List.sum_append]
    by_cases e : i = n
    · subst e
      have z : ((List.range i).map fun k => if i = k then f k else 0) = (List.range i).map fun _ => 0 := List.map_congr_left fun k hk => by
        have := List.mem_range.mp hk
        rw [if_neg (by omega)]
      rw [z, List.map_congr_left (g := fun _ => 0) (fun _ _ => rfl)]
      have z0 : ∀ j : Nat, ((List.range j).map fun _ => 0).sum = 0 := fun j => by
        induction j with
        | zero => rfl
        | succ j ihj =>
          rw [List.range_succ, List.map_append, List.sum_append, ihj]
          rfl
      rw [z0]
      simp
    · rw [ih i (by omega)]
      simp [e]
theorem sum_add (f g : Nat → Nat) : ∀ n : Nat, ((List.range n).map fun k => f k + g k).sum = ((List.range n).map f).sum + ((List.range n).map g).sum
  | 0 => rfl
  | n + 1 => by
    rw [List.range_succ, List.map_append, List.map_append, List.map_append, List.sum_append, List.sum_append, List.sum_append, sum_add f g n]
    simp
    omega
theorem sum_zero : ∀ n : Nat, ((List.range n).map fun _ => 0).sum = 0
  | 0 => rfl
  | n + 1 => by
    rw [List.range_succ, List.map_append, List.sum_append, sum_zero n]
    rfl
theorem sum_cnt (L : Nat) (f : Nat → Nat) : ∀ m : List Int, (∀ x ∈ m, 0 ≤ x) → ((List.range (L + 1)).map fun (k : Nat) => m.count (k : Int) * f k).sum = (m.map fun x => if x ≤ (L : Int) then f x.toNat else 0).sum
  | [], _ => by simp [sum_zero]
  | x :: m, h => by
    have ih := sum_cnt L f m fun y hy => h y (List.mem_cons_of_mem _ hy)
    have h0 := h x List.mem_cons_self
    have e : ((List.range (L + 1)).map fun (k : Nat) => (x :: m).count (k : Int) * f k) = (List.range (L + 1)).map fun (k : Nat) => m.count (k : Int) * f k + if x.toNat = k then f k else 0 := List.map_congr_left fun k _ => by
      rw [count_cons', Nat.add_mul]
      by_cases hx : x = (k : Int)
      · rw [if_pos hx, if_pos (by omega), Nat.one_mul]
      · rw [if_neg hx, if_neg (by omega), Nat.zero_mul]
    rw [e, sum_add, ih, List.map_cons, List.sum_cons]
    by_cases hx : x ≤ (L : Int)
    · rw [if_pos hx, sum_zip f (L + 1) x.toNat (by omega)]
      omega
    · rw [if_neg hx]
      have z : ((List.range (L + 1)).map fun k => if x.toNat = k then f k else 0) = (List.range (L + 1)).map fun _ => 0 := List.map_congr_left fun k hk => by
        have := List.mem_range.mp hk
        rw [if_neg (by omega)]
      rw [z, sum_zero]
      omega
theorem cnt_sum {L : Nat} {m : List Int} (h : ∀ x ∈ m, 0 ≤ x) : (cnt L m).sum = sta L m := by
  have e := sum_cnt L (fun _ => 1) m h
  simp only [Nat.mul_one] at e
  show ((List.range (L + 1)).map fun (k : Nat) => m.count (k : Int)).sum = _
  rw [e]
  unfold sta
  clear e h
  induction m with
  | nil => rfl
  | cons x m ih =>
    rw [List.map_cons, List.sum_cons, List.countP_cons, ih]
    simp
    omega
theorem wct_cnt {L : Nat} {m : List Int} (h : ∀ x ∈ m, 0 ≤ x) (q : Nat) : wct (cnt L m) q = Wt L m q := by
  unfold wct
  rw [cnt_len]
  have e : ((List.range (L + 1)).map fun k => (cnt L m).getD k 0 * wy (L + 1 - k) q) = (List.range (L + 1)).map fun (k : Nat) => m.count (k : Int) * (fun k => wy (L + 1 - k) q) k := List.map_congr_left fun k hk => by
    have := List.mem_range.mp hk
    rw [cnt_get (by omega)]
  rw [e, sum_cnt L (fun k => wy (L + 1 - k) q) m h]
  unfold Wt
  congr 1
  refine List.map_congr_left fun x hx => ?_
  have := h x hx
  by_cases hl : x ≤ (L : Int)
  · rw [if_pos hl]
    congr 1
    omega
  · rw [if_neg hl, show ((L : Int) + 1 - x).toNat = 0 by omega, wy_zero]
/-- marks that are marks -/
def Mks (L : Nat) (m : List Int) : Prop := ∀ x ∈ m, 0 ≤ x ∧ x ≤ (L : Int) + 1
theorem Mks.nn {L : Nat} {m : List Int} (h : Mks L m) : ∀ x ∈ m, 0 ≤ x := fun x hx => (h x hx).1
theorem stp_mk {L : Nat} {x : Int} (h : 0 ≤ x ∧ x ≤ (L : Int) + 1) (b : Bool) : 0 ≤ stp L x b ∧ stp L x b ≤ (L : Int) + 1 := by
  unfold stp
  split <;> omega
theorem Mks.aft {L : Nat} : ∀ {m : List Int}, Mks L m → ∀ (bs : List Bool) (y : Bool), Mks L (aft L m bs y)
  | [], _, bs, y => by
    intro x hx
    cases bs <;> simp [LA.aft] at hx
  | _ :: _, _, [], y => by
    intro x hx
    simp [LA.aft] at hx
  | a :: m, h, b :: bs, y => by
    intro x hx
    rw [aft_cons] at hx
    rcases List.mem_cons.mp hx with e | hx
    · subst e
      exact stp_mk (h a List.mem_cons_self) _
    · exact Mks.aft (fun z hz => h z (List.mem_cons_of_mem _ hz)) bs y x hx
theorem E_G {L : Nat} : ∀ (q : Nat) (m : List Int), Mks L m → (En q (cnt L m) = true ↔ Gq L q m)
  | 0, m, h => by
    show decide ((cnt L m).sum ≤ 1) = true ↔ sta L m ≤ 1
    rw [cnt_sum h.nn]
    simp
  | q + 1, m, h => by
    unfold En
    rw [Bool.or_eq_true, decide_eq_true_eq, cnt_sum h.nn, Bool.and_eq_true, List.any_eq_true]
    constructor
    · rintro (h1 | ⟨_, t, ht, h2⟩)
      · exact .inl h1
      · have tk := mem_prt.mp ht
        rw [Bool.and_eq_true] at h2
        refine .inr ⟨grd L m t, grd_len L m t, ?_, ?_⟩
        · rw [← E_G q _ (h.aft _ _), cnt_true (grd_len L m t) h.nn, tkn_grd h.nn tk]
          exact h2.1
        · rw [← E_G q _ (h.aft _ _), cnt_false (grd_len L m t) h.nn, tkn_grd h.nn tk]
          exact h2.2
    · intro g
      rcases id g with h1 | ⟨bs, hl, g1, g2⟩
      · exact .inl h1
      · refine .inr ⟨?_, tkn L m bs, mem_prt.mpr (tkn_tk m bs), ?_⟩
        · have v := G_vol g
          rw [← wct_cnt h.nn] at v
          unfold heavy
          rw [Bool.not_eq_true', decide_eq_false_iff_not]
          omega
        · rw [Bool.and_eq_true, ← cnt_true hl h.nn, ← cnt_false hl h.nn]
          exact ⟨(E_G q _ (h.aft _ _)).mpr g1, (E_G q _ (h.aft _ _)).mpr g2⟩
/-! ### the need -/
def needC (cs : List Nat) : Nat := ((List.range 25).find? fun q => En q cs).getD 25
theorem needC_at {cs : List Nat} {q : Nat} (hq : q ≤ 24) (h : En q cs = true) : En (needC cs) cs = true ∧ needC cs ≤ q ∧ ∀ j, j < needC cs → En j cs = false := by
  unfold needC
  cases e : (List.range 25).find? fun q => En q cs with
  | none =>
    rw [List.find?_eq_none] at e
    exact absurd h (e q (List.mem_range.mpr (by omega)))
  | some r =>
    rw [List.find?_range_eq_some] at e
    obtain ⟨h1, _, h3⟩ := e
    refine ⟨h1, ?_, fun j hj => ?_⟩
    · show r ≤ q
      by_cases hh : r ≤ q
      · exact hh
      · have := h3 q (by omega)
        simp [h] at this
    · have := h3 j hj
      simpa using this
def nd (L : Nat) (m : List Int) : Nat := needC (cnt L m)
structure MOk (L : Nat) (m : List Int) : Prop where
  lies : L ≤ 2
  len : m.length ≤ 8
  mks : Mks L m
theorem MOk.aft {L : Nat} {m : List Int} (h : MOk L m) {bs : List Bool} (hl : bs.length = m.length) (y : Bool) : MOk L (aft L m bs y) :=
  ⟨h.lies, by rw [aft_len hl]; exact h.len, h.mks.aft bs y⟩
theorem MOk.G24 {L : Nat} {m : List Int} (h : MOk L m) : Gq L 24 m := by
  refine G_ph 24 m ?_
  have e := ph_bound (L := (L : Int)) (k := 3) m h.mks.nn (by have := h.lies; omega)
  have := h.len
  omega
theorem nd_E {L : Nat} {m : List Int} (h : MOk L m) : En (nd L m) (cnt L m) = true ∧ nd L m ≤ 24 ∧ ∀ j, j < nd L m → En j (cnt L m) = false :=
  needC_at (Nat.le_refl 24) ((E_G 24 m h.mks).mpr h.G24)
theorem nd_G {L : Nat} {m : List Int} (h : MOk L m) : Gq L (nd L m) m := (E_G _ m h.mks).mp (nd_E h).1
theorem nd_le {L : Nat} {m : List Int} (h : MOk L m) {q : Nat} (g : Gq L q m) : nd L m ≤ q := by
  by_cases hq : q ≤ 24
  · exact (needC_at hq ((E_G q m h.mks).mpr g)).2.1
  · have := (nd_E h).2.1
    omega
theorem nd_zero {L : Nat} {m : List Int} (h : MOk L m) : nd L m = 0 ↔ sta L m ≤ 1 := by
  constructor
  · intro e
    have g := nd_G h
    rw [e] at g
    exact g
  · intro e
    have := nd_le h (q := 0) e
    omega
theorem nd_hard {L : Nat} {m : List Int} (h : MOk L m) {bs : List Bool} (hl : bs.length = m.length) : nd L m ≤ max (nd L (aft L m bs true)) (nd L (aft L m bs false)) + 1 := by
  refine nd_le h (.inr ⟨bs, hl, ?_, ?_⟩)
  · exact G_up (nd_G (h.aft hl true)) (by omega)
  · exact G_up (nd_G (h.aft hl false)) (by omega)
theorem nd_mono {L : Nat} {m n : List Int} (h : MOk L m) (h' : MOk L n) (e : LeL m n) : nd L n ≤ nd L m := nd_le h' (G_le e (nd_G h))
theorem nd_perm {L : Nat} {m n : List Int} (e : m.Perm n) : nd L m = nd L n := by
  unfold nd cnt
  congr 1
  exact List.map_congr_left fun k _ => e.count_eq _
theorem nd_vol {L : Nat} {m : List Int} (h : MOk L m) : Wt L m (nd L m) ≤ 2 ^ nd L m := G_vol (nd_G h)
/-- what split finds -/
def spl (q : Nat) (cs : List Nat) : Option (List Nat) := (prt cs).find? fun t => En q (mvd cs t) && En q (mvd cs (lft cs t))
theorem spl_E {q : Nat} {cs : List Nat} : En (q + 1) cs = (decide (cs.sum ≤ 1) || (!heavy cs (q + 1) && (spl q cs).isSome)) := by
  show (_ || (_ && _)) = _
  unfold spl
  rw [List.isSome_find?]
theorem spl_need {L : Nat} {m : List Int} (h : MOk L m) {q : Nat} (e : nd L m = q + 1) : ∃ t, spl q (cnt L m) = some t ∧ Tk t (cnt L m) ∧ nd L (aft L m (grd L m t) true) ≤ q ∧ nd L (aft L m (grd L m t) false) ≤ q := by
  have h1 := (nd_E h).1
  rw [e, spl_E, Bool.or_eq_true, decide_eq_true_eq, cnt_sum h.mks.nn, Bool.and_eq_true] at h1
  rcases h1 with h1 | ⟨_, h1⟩
  · have := (nd_zero h).mpr h1
    omega
  · obtain ⟨t, ht⟩ := Option.isSome_iff_exists.mp h1
    refine ⟨t, ht, ?_⟩
    have tk : Tk t (cnt L m) := mem_prt.mp (List.mem_of_find?_eq_some ht)
    have z := List.find?_some ht
    rw [Bool.and_eq_true] at z
    have o1 := h.aft (grd_len L m t) true
    have o2 := h.aft (grd_len L m t) false
    refine ⟨tk, nd_le o1 ((E_G q _ o1.mks).mp ?_), nd_le o2 ((E_G q _ o2.mks).mp ?_)⟩
    · rw [cnt_true (grd_len L m t) h.mks.nn, tkn_grd h.mks.nn tk]
      exact z.1
    · rw [cnt_false (grd_len L m t) h.mks.nn, tkn_grd h.mks.nn tk]
      exact z.2
end LA

namespace LA
open PySem PySem.Spec PyProof.Rows L2 Evl TL
/-! ### a def of the text; its promise kept -/
def Fn (K : PySem.W.Frag) (mg : Str → Option Value) (x : Str) (st : Stmt) (ps : List Str) : Prop :=
  ∃ f fd, Fun K x x st f fd ∧ mg x = some (.ref f) ∧ Binds K fd ps []
def Good (P : Program) (w : World) (K : PySem.W.Frag) (mg : Str → Option Value) (base : Heap) (CX : CXT) (k : Nat) (x : Str) (ps : List Str) (sp : Sp) : Prop :=
  ∃ f fd, FnOk P w K mg base CX k f fd ps sp ∧ mg x = some (.ref f) ∧ PySem.W.keepIn K (.ref f) = true ∧ Binds K fd ps []
section
variable {P : Program} {w : World} {K : PySem.W.Frag} {mg : Str → Option Value} {base : Heap} {CX : CXT} {j k : Nat} {x : Str} {ps N : List Str} {sp : Sp} {st : Stmt}
theorem Good.mono (g : Good P w K mg base CX j x ps sp) (h : j ≤ k) : Good P w K mg base CX k x ps sp := by
  obtain ⟨f, fd, a, b, c, d⟩ := g
  exact ⟨f, fd, a.mono h, b, c, d⟩
theorem Good.of (F : Fn K mg x st ps) (S : FnScope N ps (defScope st)) (len : ∀ vs H Q E, sp vs H Q E → vs.length = ps.length)
    (body : ∀ (f : Addr) (cdv : Value) (A : Around) (outer : List Env) (s : Shared) (H : Hp) (vs : List V) (Q : VK) (E : XK), Room k (A.deeper (envOfC x (defScope st) s.heap.objs.size f cdv)) → sp vs H Q E →
      ∃ t, PSs (cxOf CX0 P w K mg base N x (defScope st) f cdv A outer s H E).nox (defBody st) t ∧ t { nx := fun _ H' => Q .non H', rt := Q } (start N vs) H) : Good P w K mg base CX0 (k + 1) x ps sp := by
  obtain ⟨f, fd, a, b, c⟩ := F
  exact ⟨f, fd, a.ok S len fun cdv A outer s H vs Q E hr h => body f cdv A outer s H vs Q E hr h, b, a.kp, c⟩
end
section
variable {X : Cx}
/-- a call of such a def; nothing is let out -/
theorem cg {k : Nat} {x : Str} {ps : List Str} {sp : Sp} {e : Expr} {es : List Expr} {t : TA} {p pos : Pos} (g : Good X.prog X.w X.K X.mg X.base CX0 k x ps sp) (hr : Room k X.A) (ha : PA X (e :: es) t) (hg : Gl X x := by rfl)
    (hd : (x == ("__debug__" : Str)) = false := by decide) (h1 : starEach (e :: es) X.env = (false, eval e X.env) :: starEach es X.env := by rfl) (h2 : (backTo pos (starEach es X.env)).any (·.1) = false := by rfl) :
    PE X (.Call (.Name x p) (e :: es) [] pos) (tCall sp [] E0 t) := by
  obtain ⟨f, fd, a, b, c, d⟩ := g
  exact pe_call a hr hg b c d .nil pass0 ha hd h1 h2
/-! ### built-ins, their readings by name -/
theorem c_len : CallR X (.builtin "len") (Evl.rLenS X.K) := call_len_seq
theorem c_list : CallR X (.type "list") (Evl.rListS X.K) := call_list_of
def rInt1 : List V → Hp → VK → Prop := fun xs H Q => (∃ i, xs = [.int i] ∧ Q (.int i) H) ∨ ∃ k, xs = [.bl k] ∧ Q (.int (if k then 1 else 0)) H
theorem c_int : CallR X (.type "int") rInt1 := call_int1
def rMin2 : List V → Hp → VK → Prop := fun xs H Q => ∃ i j, xs = [.int i, .int j] ∧ Q (.int (if j < i then j else i)) H
theorem c_min2 (hc : X.calm = true) : CallR X (.builtin "min") rMin2 := call_min2 hc
def rTupS (K : PySem.W.Frag) : List V → Hp → VK → Prop := fun xs H Q => ∃ p ys, xs = [.ref p] ∧ ((SqL K H p ys ∧ ∀ l, H l = none → Q (.ref l) (upd H l (.tup ys))) ∨ (SqT K H p ys ∧ Q (.ref p) H))
theorem c_tuple : CallR X (.type "tuple") (rTupS X.K) := call_tuple_of
def rSumT (K : PySem.W.Frag) : List V → Hp → VK → Prop := fun vs H Q => ∃ (a : Addr) (ns : List Int), vs = [V.ref a] ∧ SqT K H a (ns.map V.int) ∧ Q (.int ns.sum) H
theorem c_sumT (hc : X.calm = true) : CallR X (.builtin "sum") (rSumT X.K) := by
  intro pins s σ H vs us Q I r h
  obtain ⟨a, ns, rfl, hs, q⟩ := h
  obtain ⟨its, rv, hl, _⟩ := I.tuple hs
  rw [Vals.ref1 r]
  have hi := rv.ints
  obtain ⟨xs, hx⟩ := hi.allInts.items
  have hn : numsOf (intItems xs).toList = ns := by rw [← hx]; exact hi.numsOf
  rw [nums_intItems] at hn
  have ht : s.heap.IsTuple a (intItems xs) := by
    rw [← hx]
    exact hl
  refine PySem.W.ktm_sumG (I.ok.hd hc) ht fun h' tk t' hk => ⟨.int _, H, I.kept hk, ⟨t', ?_⟩, q⟩
  rw [preSum_eq, List.take_of_length_le (by simp), hn]
end
/-! ### the same, the written part by its own name (within a comprehension) -/
section
variable {X : Cx} {K : PySem.W.Frag}
theorem kix_list (h : X.K = K) : IxR X (rIxL K) := h ▸ ix_list
theorem kix_tup (h : X.K = K) : IxR X (rIxT K) := h ▸ ix_tup
theorem kc_len (h : X.K = K) : CallR X (.builtin "len") (Evl.rLenS K) := h ▸ c_len
theorem kc_list (h : X.K = K) : CallR X (.type "list") (Evl.rListS K) := h ▸ c_list
theorem kc_tuple (h : X.K = K) : CallR X (.type "tuple") (rTupS K) := h ▸ c_tuple
theorem kc_sum (h : X.K = K) (hc : X.calm = true) : CallR X (.builtin "sum") (rSum K) := h ▸ cr_sum hc
theorem kc_sumT (h : X.K = K) (hc : X.calm = true) : CallR X (.builtin "sum") (rSumT K) := h ▸ c_sumT hc
theorem kc_isi (h : X.K = K) : CallR X (.builtin "isinstance") (rIsi K) := h ▸ call_isi
theorem kop_in (h : X.K = K) : OpR X (compareOp .In) (rIn K false) := h ▸ op_in_seq
theorem kop_notIn (h : X.K = K) : OpR X (compareOp .NotIn) (rIn K true) := h ▸ op_notIn_seq
theorem kop_catA (h : X.K = K) : OpR X (binaryOp .Add) (rCatA K) := h ▸ op_catA
theorem kmt_count (h : X.K = K) : MtR X "list.count" (rCntI K) := h ▸ mt_lcount
theorem ksl_list (h : X.K = K) : SlR X (rSlL K) := h ▸ sl_list
theorem kpi_list {tg l : Expr} {tl : TE} (h : X.K = K) (hl : PE X l tl) : PI X tg l (iList K tl) := h ▸ pi_list hl
theorem kpi_tup {tg l : Expr} {tl : TE} (h : X.K = K) (hl : PE X l tl) : PI X tg l (iTup K tl) := h ▸ pi_tup hl
theorem kpe_bm {T : String} {nm : Str} {o e : Expr} {es : List Expr} {to : TE} {t : TA} {r : V → List V → Hp → VK → Prop} {cpos apos : Pos} (h : X.K = K) (hp : PE X (.Call (.Attribute o nm apos) (e :: es) [] cpos) (tBM X.K T r to t)) : PE X (.Call (.Attribute o nm apos) (e :: es) [] cpos) (tBM K T r to t) := h ▸ hp
theorem kpg_tup {es : List Expr} {k : Nat} {t : TGs} {n : Nat} {pos : Pos} (hk : X.K = K) (hc : X.calm = true) (h : PGs X es t)
    (hn : (assignEach es X.env).length = n := by rfl) (hst : (assignEach es X.env).findIdx? (·.1) = none := by rfl) : PG X (.Tuple es k pos) (gTup K n t) := hk ▸ pg_tup hc h hn hst
end
/-! ### what they evaluate to -/
section
variable {K : PySem.W.Frag} {σ : L2.St} {H H' : Hp} {ta tb te : TE} {z v : V}
theorem ev_lenT {p : Addr} {xs : List V} (ha : Ev ta σ H (.ref p)) (h : SqT K H p xs) : Ev (tCB (Evl.rLenS K) (tCons ta tNil)) σ H (.int (xs.length : Int)) := fun H1 e Q q =>
  ha H1 e _ fun H2 e2 => ⟨p, xs, rfl, Or.inr (ex_t (e.trans e2) h), q H2 e2⟩
theorem ev_min2 {i j : Int} (ha : Ev ta σ H (.int i)) (hb : Ev tb σ H (.int j)) : Ev (tCB rMin2 (tCons ta (tCons tb tNil))) σ H (.int (if j < i then j else i)) := fun H1 e Q q =>
  ha H1 e _ fun H2 e2 => hb H2 (e.trans e2) _ fun H3 e3 => ⟨i, j, rfl, q H3 (e2.trans e3)⟩
theorem ev_intB {b : Bool} (ha : Ev ta σ H (.bl b)) : Ev (tCB rInt1 (tCons ta tNil)) σ H (.int (if b then 1 else 0)) := fun H1 e Q q =>
  ha H1 e _ fun H2 e2 => .inr ⟨b, rfl, q H2 e2⟩
theorem ev_sumL {ns : List Int} (ha : EvL ta σ H (ns.map V.int)) : Ev (tCB (rSum K) (tCons ta tNil)) σ H (.int ns.sum) := fun H1 e Q q =>
  ha H1 e _ fun p H2 _ e2 h2 => ⟨p, ns, rfl, sq_of h2, q H2 e2⟩
theorem ev_sumT {p : Addr} {ns : List Int} (ha : Ev ta σ H (.ref p)) (h : SqT K H p (ns.map V.int)) : Ev (tCB (rSumT K) (tCons ta tNil)) σ H (.int ns.sum) := fun H1 e Q q =>
  ha H1 e _ fun H2 e2 => ⟨p, ns, rfl, ex_t (e.trans e2) h, q H2 e2⟩
theorem ev_cnt {p : Addr} {ns : List Int} {k : Int} (ha : Ev ta σ H (.ref p)) (hb : Ev tb σ H (.int k)) (h : SqL K H p (ns.map V.int)) : Ev (tBM K "list" (rCntI K) ta (tCons tb tNil)) σ H (.int (ns.count k : Nat)) := fun H1 e Q q =>
  ha H1 e _ fun H2 e2 => ⟨Or.inl ⟨rfl, _, ex_l (e.trans e2) h⟩, hb H2 (e.trans e2) _ fun H3 e3 => ⟨p, ns, k, rfl, rfl, ex_l ((e.trans e2).trans e3) h, q H3 (e2.trans e3)⟩⟩
/-- tuple([..]) of a new list -/
theorem eu_tup {xs : List V} (ha : EvL ta σ H xs) : EvU (tCB (rTupS K) (tCons ta tNil)) σ H xs := fun H1 e Q q =>
  ha H1 e _ fun p H2 hp e2 h2 => ⟨p, xs, rfl, Or.inl ⟨sq_of h2, fun l hl => q l _ (fresh_back e2 hl) (e2.trans (Ex.new hl)) upd_same⟩⟩
/-- list(t) of a tuple -/
theorem el_listT {p : Addr} {xs : List V} (ha : Ev ta σ H (.ref p)) (h : SqT K H p xs) : EvL (tCB (Evl.rListS K) (tCons ta tNil)) σ H xs := fun H1 e Q q =>
  ha H1 e _ fun H2 e2 => ⟨p, xs, rfl, Or.inr (ex_t (e.trans e2) h), fun l hl => q l _ (fresh_back e2 hl) (e2.trans (Ex.new hl)) upd_same⟩
/-- a new tuple handed back by a def -/
def SpU (sp : Sp) (vs : List V) (H : Hp) (xs : List V) : Prop := ∀ H1, Ex H H1 → ∀ Q : VK, (∀ p H2, H1 p = none → Ex H1 H2 → H2 p = some (.tup xs) → Q (.ref p) H2) → ∀ E : XK, sp vs H1 Q E
def RetU (xs : List V) (H : Hp) (Q : VK) : Prop := ∀ p H2, H p = none → Ex H H2 → H2 p = some (.tup xs) → Q (.ref p) H2
theorem eu_call {sp : Sp} {dvs vs xs : List V} {E : XK} {ta : TA} (h : EvA ta σ H vs) (hs : SpU sp (vs ++ dvs) H xs) : EvU (tCall sp dvs E ta) σ H xs := fun H1 e Q q =>
  h H1 e _ fun H2 e2 => hs H2 (e.trans e2) Q (fun p H3 hp e3 h3 => q p H3 (fresh_back e2 hp) (e2.trans e3) h3) E
/-- isinstance(x, T), T a built-in -/
theorem ev_isi {x : V} {T : String} {n : String} {b : Bool} (ha : Ev ta σ H x) (ty : ∀ H1, Ex H H1 → TyX K H1 x (.type T)) (h : kitB T n = some b) : Ev (tCB (rIsi K) (tCons ta (tCons (tC (.ty n)) tNil))) σ H (.bl b) := fun H1 e Q q =>
  ha H1 e _ fun H2 e2 => ⟨x, .ty n, .type T, .type n, b, rfl, .ty n, ty H2 (e.trans e2), kit_ty h, q H2 e2⟩
theorem rv_eqI {i j : Int} : RV rEq (.int i) (.int j) H (.bl (decide (i = j))) := fun H1 _ _ q => ⟨rfl, by
  have e : decide (V.int i = V.int j) = decide (i = j) := by
    rw [Bool.eq_iff_iff]
    simp
  rw [e]
  exact q H1 (Ex.refl H1)⟩
theorem rv_neI {i j : Int} : RV rNe (.int i) (.int j) H (.bl (!decide (i = j))) := fun H1 _ _ q => ⟨rfl, by
  have e : decide (V.int i = V.int j) = decide (i = j) := by
    rw [Bool.eq_iff_iff]
    simp
  rw [e]
  exact q H1 (Ex.refl H1)⟩
theorem rv_eqB {i j : Bool} : RV rEq (.bl i) (.bl j) H (.bl (i == j)) := fun H1 _ _ q => ⟨rfl, by
  rw [dec_bl]
  exact q H1 (Ex.refl H1)⟩
theorem rv_neB {i j : Bool} : RV rNe (.bl i) (.bl j) H (.bl (i != j)) := fun H1 _ _ q => ⟨rfl, by
  rw [dec_bl]
  exact q H1 (Ex.refl H1)⟩
theorem rv_isN {x : V} : RV (fun x y H Q => y = .non ∧ Q (.bl (decide (x = .non))) H) x .non H (.bl (decide (x = .non))) := fun H1 _ _ q => ⟨rfl, q H1 (Ex.refl H1)⟩
theorem rv_notN {x : V} : RV (fun x y H Q => y = .non ∧ Q (.bl (!decide (x = .non))) H) x .non H (.bl (!decide (x = .non))) := fun H1 _ _ q => ⟨rfl, q H1 (Ex.refl H1)⟩
end
/-! ### a thing among things -/
def hasI (q : List Int) (k : Int) : Bool := decide (k ∈ q)
theorem inV_int (q : List Int) (k : Int) : inV (.int k) (q.map V.int) = hasI q k := by
  unfold inV hasI
  rw [Bool.eq_iff_iff, List.any_eq_true, decide_eq_true_eq]
  constructor
  · rintro ⟨v, hv, e⟩
    obtain ⟨i, hi, rfl⟩ := List.mem_map.mp hv
    have e2 : i = k := by simpa [eqV] using e
    rw [← e2]
    exact hi
  · intro h
    exact ⟨.int k, List.mem_map.mpr ⟨k, h, rfl⟩, by simp [eqV]⟩
theorem flat_int (q : List Int) : (q.map V.int).all flatV = true := by
  rw [List.all_eq_true]
  intro v hv
  obtain ⟨i, _, rfl⟩ := List.mem_map.mp hv
  rfl
theorem at_int {ns : List Int} {i : Nat} (h : i < ns.length) : atI (ns.map V.int) (i : Int) = some (.int (ns.getD i 0)) := by
  refine atI_nat ?_
  rw [List.getElem?_map, List.getElem?_eq_getElem h, List.getD_eq_getElem?_getD, List.getElem?_eq_getElem h]
  rfl
theorem len_map {α β : Type} (f : α → β) (l : List α) : (l.map f).length = l.length := List.length_map ..
theorem given_all (n : Nat) (v : Nat → V) : given n (fun _ => true) v = (List.range n).map v := by
  unfold given
  rw [List.filter_eq_self.mpr (by simp)]
/-- a cell of the script -/
def cl (ns : List Int) (k : Int) : Int := ns.getD k.toNat 0
/-! ### the marks behind an answer, as the program counts them -/
def bhv (L : Int) (m q : List Int) (y : Bool) (i : Nat) : Int := if m.getD i 0 + (if (hasI q (i : Int) != y) = true then 1 else 0) < L + 1 then m.getD i 0 + (if (hasI q (i : Int) != y) = true then 1 else 0) else L + 1
def beh (L : Int) (m q : List Int) (y : Bool) : List Int := (List.range m.length).map (bhv L m q y)
section
variable {K : PySem.W.Frag} {σ : L2.St} {H H' : Hp} {ta tb te : TE} {t : TT} {z v : V}
theorem et_yes : EvT tYes σ H true := fun H1 _ _ q => q H1 (Ex.refl H1)
/-- [e for i in range(n)], ints -/
theorem el_cI {ta : TA} {j : Nat} {vs : List Nat} {n : Int} (g : Nat → Int) (h : EvA ta σ H [.int n]) (hn : 0 ≤ n ∧ n ≤ 40000) (hw : ∀ x, wipe ((wipe σ vs).set j (some x)) vs = wipe σ vs)
    (he : ∀ (i : Nat) H1, Ex H H1 → (i : Int) < n → Ev te ((wipe σ vs).set j (some (.int (i : Int)))) H1 (.int (g i))) : EvL (tLc (iRng1 ta) (gName j) tYes te vs) σ H (((List.range n.toNat).map g).map V.int) := by
  have e := el_lcR1 (t := tYes) (te := te) (fun _ => true) (fun i => V.int (g i)) h hn hw (fun _ _ _ _ => et_yes) (fun i H1 e1 hi _ => he i H1 e1 hi)
  rw [given_all] at e
  rw [List.map_map]
  exact e
/-- [i for i in range(n) if ..] -/
theorem el_cF {ta : TA} {j : Nat} {vs : List Nat} {n : Int} (f : Nat → Bool) (h : EvA ta σ H [.int n]) (hn : 0 ≤ n ∧ n ≤ 40000) (hw : ∀ x, wipe ((wipe σ vs).set j (some x)) vs = wipe σ vs)
    (ht : ∀ (i : Nat) H1, Ex H H1 → (i : Int) < n → EvT t ((wipe σ vs).set j (some (.int (i : Int)))) H1 (f i))
    (he : ∀ (i : Nat) H1, Ex H H1 → (i : Int) < n → Ev te ((wipe σ vs).set j (some (.int (i : Int)))) H1 (.int (i : Int))) : EvL (tLc (iRng1 ta) (gName j) t te vs) σ H ((((List.range n.toNat).filter f).map fun (i : Nat) => (i : Int)).map V.int) := by
  have e := el_lcR1 (t := t) (te := te) f (fun i => V.int (i : Int)) h hn hw ht (fun i H1 e1 hi _ => he i H1 e1 hi)
  rw [List.map_map]
  exact e
/-- [e for x in a list of ints] -/
theorem el_cL {a : Addr} {ns : List Int} {tl : TE} {j : Nat} {vs : List Nat} (g : Int → Int) (h : Ev tl σ H (.ref a)) (hx : SqL K H a (ns.map V.int)) (hz : ns.length ≤ 40000) (hw : ∀ x, wipe ((wipe σ vs).set j (some x)) vs = wipe σ vs)
    (he : ∀ (x : Int) H1, Ex H H1 → x ∈ ns → Ev te ((wipe σ vs).set j (some (.int x))) H1 (.int (g x))) : EvL (tLc (iList K tl) (gName j) tYes te vs) σ H ((ns.map g).map V.int) := by
  have e := el_lcL (K := K) (t := tYes) (te := te) (xs := ns.map V.int) (fun _ => true) (fun i => V.int (g (ns.getD i 0))) h hx (by rw [len_map]; exact hz) hw (fun _ _ _ _ _ => et_yes) (fun i x H1 e1 hi _ => by
    rw [List.getElem?_map] at hi
    cases q : ns[i]? with
    | none =>
      rw [q] at hi
      cases hi
    | some y =>
      rw [q] at hi
      have e2 : x = V.int y := (Option.some.inj hi).symm
      subst e2
      have e3 : ns.getD i 0 = y := by rw [List.getD_eq_getElem?_getD, q] <;> rfl
      rw [e3]
      exact he y H1 e1 (List.mem_of_getElem? q))
  rw [given_all, len_map] at e
  have e4 : ((List.range ns.length).map fun i => V.int (g (ns.getD i 0))) = (ns.map g).map V.int := by
    refine List.ext_getElem? fun i => ?_
    rw [List.getElem?_map, List.getElem?_map, List.getElem?_map]
    by_cases hi : i < ns.length
    · have e5 : ns.getD i 0 = ns[i] := by rw [List.getD_eq_getElem?_getD, List.getElem?_eq_getElem hi] <;> rfl
      rw [List.getElem?_range hi, List.getElem?_eq_getElem hi]
      show some (V.int (g (ns.getD i 0))) = some (V.int (g ns[i]))
      rw [e5]
    · rw [List.getElem?_eq_none (by simp; omega), List.getElem?_eq_none (by omega)]
      rfl
  rw [← e4]
  exact e
end
/-! ### a question's things -/
def Rise : Int → List Int → Int → Prop
  | _, [], _ => True
  | b, x :: r, n => b < x ∧ x < n ∧ Rise x r n
/-- the things of a question, for each thing whether it is asked -/
def qb (q : List Int) (n : Nat) : List Bool := (List.range n).map fun (i : Nat) => hasI q (i : Int)
theorem qb_len (q : List Int) (n : Nat) : (qb q n).length = n := by simp [qb]
theorem zip_range {α : Type} (f : Int → α → Int) (g : Nat → α) (m : List Int) : List.zipWith f m ((List.range m.length).map g) = (List.range m.length).map fun i => f (m.getD i 0) (g i) := by
  refine List.ext_getElem? fun i => ?_
  rw [List.getElem?_zipWith, List.getElem?_map, List.getElem?_map]
  by_cases hi : i < m.length
  · have e5 : m.getD i 0 = m[i] := by rw [List.getD_eq_getElem?_getD, List.getElem?_eq_getElem hi] <;> rfl
    rw [List.getElem?_range hi, List.getElem?_eq_getElem hi]
    show some (f m[i] (g i)) = some (f (m.getD i 0) (g i))
    rw [e5]
  · rw [List.getElem?_eq_none (l := List.range m.length) (by simp; omega), List.getElem?_eq_none (by omega)]
    rfl
def afq (L : Int) (m q : List Int) (y : Bool) : List Int := (List.range m.length).map fun (i : Nat) => stp L (m.getD i 0) (hasI q (i : Int) == y)
theorem afq_aft (L : Int) (m q : List Int) (y : Bool) : afq L m q y = aft L m (qb q m.length) y := by
  unfold afq aft qb
  rw [zip_range]
theorem afq_len (L : Int) (m q : List Int) (y : Bool) : (afq L m q y).length = m.length := by simp [afq]
theorem mks_getD {L : Nat} {m : List Int} (h : Mks L m) {i : Nat} (hi : i < m.length) : 0 ≤ m.getD i 0 ∧ m.getD i 0 ≤ (L : Int) + 1 := by
  rw [List.getD_eq_getElem?_getD, List.getElem?_eq_getElem hi]
  exact h _ (List.getElem_mem hi)
theorem beh_afq {L : Nat} {m : List Int} (h : Mks L m) (q : List Int) (y : Bool) : beh (L : Int) m q y = afq (L : Int) m q y := by
  unfold beh afq
  refine List.map_congr_left fun i hi => ?_
  have hx := mks_getD h (List.mem_range.mp hi)
  unfold bhv stp
  generalize m.getD i 0 = x at *
  cases hasI q (i : Int) <;> cases y <;> simp <;> grind
/-- the things that stand -/
def stl (L : Int) (m : List Int) : List Int := ((List.range m.length).filter fun i => decide (m.getD i 0 ≤ L)).map fun (i : Nat) => (i : Int)
/-- the things that a number tells -/
def askL (c : Int) (n : Nat) : List Int := ((List.range n).filter fun i => decide (c / 2 ^ i % 2 = 1)).map fun (i : Nat) => (i : Int)
theorem askL_succ (c : Int) (n : Nat) : askL c (n + 1) = if c / 2 ^ n % 2 = 1 then askL c n ++ [(n : Int)] else askL c n := by
  unfold askL
  rw [List.range_succ, List.filter_append, List.map_append]
  by_cases h : c / 2 ^ n % 2 = 1
  · simp [h]
  · simp [h]
theorem rise_snoc : ∀ {q : List Int} {b n k : Int}, Rise b q n → b < k → n ≤ k → (∀ x ∈ q, x < k) → Rise b (q ++ [k]) (k + 1)
  | [], b, n, k, _, hb, _, _ => ⟨hb, by omega, trivial⟩
  | x :: q, b, n, k, ⟨h1, h2, h3⟩, hb, hn, hx => ⟨h1, by omega, rise_snoc h3 (hx x List.mem_cons_self) hn fun y hy => hx y (List.mem_cons_of_mem _ hy)⟩
theorem rise_up : ∀ {q : List Int} {b n k : Int}, Rise b q n → n ≤ k → Rise b q k
  | [], _, _, _, _, _ => trivial
  | _ :: _, _, _, _, ⟨h1, h2, h3⟩, h => ⟨h1, by omega, rise_up h3 h⟩
theorem rise_mem : ∀ {q : List Int} {b n : Int}, Rise b q n → ∀ x ∈ q, b < x ∧ x < n
  | y :: q, b, n, ⟨h1, h2, h3⟩, x, hx => by
    rcases List.mem_cons.mp hx with e | hx
    · subst e
      exact ⟨h1, h2⟩
    · have := rise_mem h3 x hx
      omega
theorem askL_rise (c : Int) : ∀ n : Nat, Rise (-1) (askL c n) (n : Int)
  | 0 => trivial
  | n + 1 => by
    rw [askL_succ]
    have ih := askL_rise c n
    split
    · exact rise_snoc ih (by omega) (Int.le_refl _) fun x hx => (rise_mem ih x hx).2
    · exact rise_up ih (by omega)
theorem ediv_pow (c : Int) (n : Nat) : c / 2 ^ n / 2 = c / 2 ^ (n + 1) := by
  rw [Int.pow_succ, Int.ediv_ediv_of_nonneg (Int.pow_nonneg (by omega))]
/-! ### lists as data, for == -/
def dI (ns : List Int) : PyData := .list (ns.map PyData.int)
theorem lay_ints : ∀ ns : List Int, PyData.canLayAll0 (ns.map PyData.int) = true
  | [] => rfl
  | x :: r => by
    rw [List.map_cons, PyData.canLayAll0, lay_ints r]
    rfl
theorem dep_ints : ∀ ns : List Int, PyData.depthAll (ns.map PyData.int) = 0
  | [] => rfl
  | x :: r => by
    rw [List.map_cons, PyData.depthAll, dep_ints r]
    rfl
theorem lay_dI (ns : List Int) : (dI ns).canLay0 = true := by
  unfold dI
  rw [PyData.canLay0]
  exact lay_ints ns
theorem dep_dI (ns : List Int) : (dI ns).depth = 1 := by
  unfold dI
  rw [PyData.depth, dep_ints]
theorem lay_lists : ∀ l : List (List Int), PyData.canLayAll0 (l.map dI) = true
  | [] => rfl
  | x :: r => by
    rw [List.map_cons, PyData.canLayAll0, lay_lists r, lay_dI]
    rfl
theorem dep_lists : ∀ l : List (List Int), PyData.depthAll (l.map dI) ≤ 1
  | [] => Nat.zero_le _
  | x :: r => by
    rw [List.map_cons, PyData.depthAll, dep_dI]
    have := dep_lists r
    omega
theorem shaped_dI (ns : List Int) : SeqAt.shaped (dI ns) = true := by
  unfold SeqAt.shaped
  rw [lay_dI, dep_dI]
  rfl
theorem shaped_lists (l : List (List Int)) : SeqAt.shaped (.list (l.map dI)) = true := by
  unfold SeqAt.shaped
  rw [PyData.canLay0, lay_lists, PyData.depth]
  have := dep_lists l
  rw [Bool.true_and, decide_eq_true_eq]
  omega
theorem eqv_dI (ns : List Int) : PyData.eqv (dI ns) (dI ns) = true := SeqAt.eqv_refl _ (lay_dI ns)
theorem eqv_lists (l : List (List Int)) : PyData.eqv (.list (l.map dI)) (.list (l.map dI)) = true := SeqAt.eqv_refl _ (by
  rw [PyData.canLay0]
  exact lay_lists l)
section
variable {K : PySem.W.Frag} {H H' : Hp}
theorem dpAll_ints : ∀ ns : List Int, DpAll K H (ns.map V.int) (ns.map PyData.int)
  | [] => .nil
  | x :: r => .cons (.int x) (dpAll_ints r)
theorem dp_ints {a : Addr} {ns : List Int} (h : SqL K H a (ns.map V.int)) : Dp K H (.ref a) (dI ns) := .lst h (dpAll_ints ns)
/-- lists of such lists, each at its address -/
inductive ListsAt (K : PySem.W.Frag) (H : Hp) : List Addr → List (List Int) → Prop
  | nil : ListsAt K H [] []
  | cons {a : Addr} {ns : List Int} {as : List Addr} {l : List (List Int)} : SqL K H a (ns.map V.int) → ListsAt K H as l → ListsAt K H (a :: as) (ns :: l)
theorem ListsAt.dp {as : List Addr} {l : List (List Int)} (h : ListsAt K H as l) : DpAll K H (as.map V.ref) (l.map dI) := by
  induction h with
  | nil => exact .nil
  | cons h _ ih => exact .cons (dp_ints h) ih
theorem ListsAt.ex {as : List Addr} {l : List (List Int)} (h : ListsAt K H as l) (e : Ex H H') : ListsAt K H' as l := by
  induction h with
  | nil => exact .nil
  | cons h _ ih => exact .cons (ex_l e h) ih
/-- != of equal lists of lists is False -/
theorem rv_neSame {a b : Addr} {as bs : List Addr} {l : List (List Int)} (ha : SqL K H a (as.map V.ref)) (hb : SqL K H b (bs.map V.ref)) (la : ListsAt K H as l) (lb : ListsAt K H bs l) : RV (rNeD K) (.ref a) (.ref b) H (.bl false) := fun H1 e Q q => by
  refine ⟨.list (l.map dI), .list (l.map dI), .lst (ex_l e ha) (la.ex e).dp, .lst (ex_l e hb) (lb.ex e).dp, shaped_lists l, shaped_lists l, ?_⟩
  rw [eqv_lists]
  exact q H1 (Ex.refl H1)
/-- of lists of ints -/
theorem rv_neSameI {a b : Addr} {ns : List Int} (ha : SqL K H a (ns.map V.int)) (hb : SqL K H b (ns.map V.int)) : RV (rNeD K) (.ref a) (.ref b) H (.bl false) := fun H1 e Q q => by
  refine ⟨dI ns, dI ns, dp_ints (ex_l e ha), dp_ints (ex_l e hb), shaped_dI ns, shaped_dI ns, ?_⟩
  rw [eqv_dI]
  exact q H1 (Ex.refl H1)
theorem rv_eqSameI {a b : Addr} {ns : List Int} (ha : SqL K H a (ns.map V.int)) (hb : SqL K H b (ns.map V.int)) : RV (rEqD K) (.ref a) (.ref b) H (.bl true) := fun H1 e Q q => by
  refine ⟨dI ns, dI ns, dp_ints (ex_l e ha), dp_ints (ex_l e hb), shaped_dI ns, shaped_dI ns, ?_⟩
  rw [eqv_dI]
  exact q H1 (Ex.refl H1)
end
/-! ### heaps that keep all but one -/
theorem ex_upd {H H' : Hp} {p : Addr} {o : HO} (e : Ex H H') (h : H p = none) : Ex H (upd H' p o) := Ex.mut e h
theorem upd_other {H : Hp} {a b : Addr} {o u : HO} (h : H b = some u) (n : b ≠ a) : upd H a o b = some u := by
  rw [upd_ne n]
  exact h
section
variable {K : PySem.W.Frag} {σ : L2.St} {H H' : Hp} {ta tb tc : TE} {x y z : V}
/-- f(x, a new list) -/
theorem ev_call1L {sp : Sp} {E : XK} {xs : List V} (ha : Ev ta σ H x) (hb : EvL tb σ H xs) (hs : ∀ p H1, Ex H H1 → H1 p = some (.lst xs) → SpV sp [x, .ref p] H1 z) : Ev (tCall sp [] E (tCons ta (tCons tb tNil))) σ H z := fun H1 e Q q =>
  ha H1 e _ fun H2 e2 => hb H2 (e.trans e2) _ fun p H3 _ e3 h3 => hs p H3 ((e.trans e2).trans e3) h3 H3 (Ex.refl H3) Q (fun H4 e4 => q H4 ((e2.trans e3).trans e4)) E
/-- f(a new list, y) -/
theorem ev_callL1 {sp : Sp} {E : XK} {xs : List V} (ha : EvL ta σ H xs) (hb : ∀ H1, Ex H H1 → Ev tb σ H1 y) (hs : ∀ p H1, Ex H H1 → H1 p = some (.lst xs) → SpV sp [.ref p, y] H1 z) : Ev (tCall sp [] E (tCons ta (tCons tb tNil))) σ H z := fun H1 e Q q =>
  ha H1 e _ fun p H2 _ e2 h2 => hb H2 (e.trans e2) H2 (Ex.refl H2) _ fun H3 e3 => hs p H3 ((e.trans e2).trans e3) (e3 p _ h2) H3 (Ex.refl H3) Q (fun H4 e4 => q H4 ((e2.trans e3).trans e4)) E
/-- f(a new list, y, z') -/
theorem ev_callL2 {sp : Sp} {E : XK} {xs : List V} {y2 : V} (ha : EvL ta σ H xs) (hb : ∀ H1, Ex H H1 → Ev tb σ H1 y) (hc : ∀ H1, Ex H H1 → Ev tc σ H1 y2) (hs : ∀ p H1, Ex H H1 → H1 p = some (.lst xs) → SpV sp [.ref p, y, y2] H1 z) : Ev (tCall sp [] E (tCons ta (tCons tb (tCons tc tNil)))) σ H z := fun H1 e Q q =>
  ha H1 e _ fun p H2 _ e2 h2 => hb H2 (e.trans e2) H2 (Ex.refl H2) _ fun H3 e3 => hc H3 ((e.trans e2).trans e3) H3 (Ex.refl H3) _ fun H4 e4 => hs p H4 (((e.trans e2).trans e3).trans e4) (e4 p _ (e3 p _ h2)) H4 (Ex.refl H4) Q (fun H5 e5 => q H5 (((e2.trans e3).trans e4).trans e5)) E
end
theorem map_zero (m : List Int) : (m.map fun _ => (0 : Int)) = List.replicate m.length 0 := List.map_const' ..
/-! ### talks -/
inductive TalkAt (K : PySem.W.Frag) (H : Hp) : List Addr → List (List Int × Bool) → Prop
  | nil : TalkAt K H [] []
  | cons {t b : Addr} {q : List Int} {y : Bool} {ts : List Addr} {l : List (List Int × Bool)} : SqT K H t [.ref b, .bl y] → SqL K H b (q.map V.int) → TalkAt K H ts l → TalkAt K H (t :: ts) ((q, y) :: l)
section
variable {K : PySem.W.Frag} {H H' : Hp}
theorem TalkAt.ex {ts : List Addr} {l : List (List Int × Bool)} (h : TalkAt K H ts l) (e : Ex H H') : TalkAt K H' ts l := by
  induction h with
  | nil => exact .nil
  | cons h1 h2 _ ih => exact .cons (ex_t e h1) (ex_l e h2) ih
theorem TalkAt.len {ts : List Addr} {l : List (List Int × Bool)} (h : TalkAt K H ts l) : ts.length = l.length := by
  induction h with
  | nil => rfl
  | cons _ _ _ ih => simp [ih]
theorem TalkAt.get {ts : List Addr} {l : List (List Int × Bool)} (h : TalkAt K H ts l) : ∀ {i : Nat} {t : Addr}, ts[i]? = some t → ∃ q y b, l[i]? = some (q, y) ∧ SqT K H t [.ref b, .bl y] ∧ SqL K H b (q.map V.int) := by
  induction h with
  | nil => intro i t e; simp at e
  | @cons t b q y ts l h1 h2 _ ih =>
    intro i u e
    cases i with
    | zero =>
      obtain rfl : t = u := Option.some.inj e
      exact ⟨q, y, b, rfl, h1, h2⟩
    | succ i => exact ih e
theorem TalkAt.snoc {ts : List Addr} {l : List (List Int × Bool)} (h : TalkAt K H ts l) {t b : Addr} {q : List Int} {y : Bool} (h1 : SqT K H t [.ref b, .bl y]) (h2 : SqL K H b (q.map V.int)) : TalkAt K H (ts ++ [t]) (l ++ [(q, y)]) := by
  induction h with
  | nil => exact .cons h1 h2 .nil
  | cons g1 g2 _ ih => exact .cons g1 g2 ih
theorem TalkAt.take {ts : List Addr} {l : List (List Int × Bool)} (h : TalkAt K H ts l) : ∀ n : Nat, TalkAt K H (ts.take n) (l.take n) := by
  induction h with
  | nil => intro n; simp; exact .nil
  | cons g1 g2 _ ih =>
    intro n
    cases n with
    | zero => exact .nil
    | succ n => exact .cons g1 g2 (ih n)
def dTalk (l : List (List Int × Bool)) : List PyData := l.map fun p => .tuple [dI p.1, .bool p.2]
theorem TalkAt.dp {ts : List Addr} {l : List (List Int × Bool)} (h : TalkAt K H ts l) : DpAll K H (ts.map V.ref) (dTalk l) := by
  induction h with
  | nil => exact .nil
  | cons h1 h2 _ ih => exact .cons (.tup h1 (.cons (dp_ints h2) (.cons (.bl _) .nil))) ih
end
theorem lay_talk : ∀ l : List (List Int × Bool), PyData.canLayAll0 (dTalk l) = true
  | [] => rfl
  | x :: r => by
    show PyData.canLayAll0 (PyData.tuple [dI x.1, .bool x.2] :: dTalk r) = true
    rw [PyData.canLayAll0, lay_talk r, PyData.canLay0, PyData.canLayAll0, lay_dI, PyData.canLayAll0, PyData.canLay0]
    rfl
theorem dep_talk : ∀ l : List (List Int × Bool), PyData.depthAll (dTalk l) ≤ 2
  | [] => Nat.zero_le _
  | x :: r => by
    show PyData.depthAll (PyData.tuple [dI x.1, .bool x.2] :: dTalk r) ≤ 2
    have := dep_talk r
    rw [PyData.depthAll, PyData.depth, PyData.depthAll, dep_dI, PyData.depthAll, PyData.depth, PyData.depthAll]
    omega
theorem rv_neSameT {K : PySem.W.Frag} {H : Hp} {a b : Addr} {as bs : List Addr} {l : List (List Int × Bool)} (ha : SqL K H a (as.map V.ref)) (hb : SqL K H b (bs.map V.ref)) (la : TalkAt K H as l) (lb : TalkAt K H bs l) : RV (rNeD K) (.ref a) (.ref b) H (.bl false) := fun H1 e Q q => by
  have sh : SeqAt.shaped (.list (dTalk l)) = true := by
    unfold SeqAt.shaped
    rw [PyData.canLay0, lay_talk, PyData.depth]
    have := dep_talk l
    rw [Bool.true_and, decide_eq_true_eq]
    omega
  refine ⟨.list (dTalk l), .list (dTalk l), .lst (ex_l e ha) (la.ex e).dp, .lst (ex_l e hb) (lb.ex e).dp, sh, sh, ?_⟩
  rw [SeqAt.eqv_refl _ (by rw [PyData.canLay0]; exact lay_talk l)]
  exact q H1 (Ex.refl H1)
/-- how many answers are lies -/
def wrong (l : List (List Int × Bool)) (i : Nat) : Nat := (l.filter fun p => hasI p.1 (i : Int) != p.2).length
def res (L : Int) (n : Nat) (l : List (List Int × Bool)) : List Int := (List.range n).map fun (i : Nat) => if L + 1 < (wrong l i : Int) then L + 1 else (wrong l i : Int)
theorem res_len (L : Int) (n : Nat) (l : List (List Int × Bool)) : (res L n l).length = n := by simp [res]
theorem wrong_snoc (l : List (List Int × Bool)) (q : List Int) (y : Bool) (i : Nat) : wrong (l ++ [(q, y)]) i = wrong l i + if (hasI q (i : Int) != y) = true then 1 else 0 := by
  unfold wrong
  rw [List.filter_append, List.length_append]
  by_cases h : (hasI q (i : Int) != y) = true
  · rw [if_pos h]
    simp [h]
  · rw [if_neg h]
    simp [h]
theorem getD_range (f : Nat → Int) {n i : Nat} (h : i < n) : ((List.range n).map f).getD i 0 = f i := by
  rw [List.getD_eq_getElem?_getD, List.getElem?_map, List.getElem?_range h]
  rfl
theorem res_snoc (L : Int) (n : Nat) (l : List (List Int × Bool)) (q : List Int) (y : Bool) : beh L (res L n l) q y = res L n (l ++ [(q, y)]) := by
  unfold beh
  rw [res_len]
  show (List.range n).map _ = (List.range n).map _
  refine List.map_congr_left fun i hi => ?_
  unfold bhv res
  rw [getD_range _ (List.mem_range.mp hi), wrong_snoc]
  by_cases h : (hasI q (i : Int) != y) = true
  · simp only [h, if_true]
    split <;> split <;> (try split) <;> omega
  · simp only [h, if_false]
    split <;> split <;> (try split) <;> first | omega | simp_all
theorem res_nil (L : Int) (h : 0 ≤ L) (n : Nat) : res L n [] = List.replicate n 0 := by
  have e : res L n [] = (List.range n).map fun _ => (0 : Int) := List.map_congr_left fun i _ => by
    show (if L + 1 < ((wrong [] i : Nat) : Int) then L + 1 else ((wrong [] i : Nat) : Int)) = 0
    unfold wrong
    simp
    omega
  rw [e, List.map_const', List.length_range]
theorem res_mks (L : Nat) (n : Nat) (l : List (List Int × Bool)) : Mks L (res (L : Int) n l) := by
  intro x hx
  obtain ⟨i, _, rfl⟩ := List.mem_map.mp hx
  split <;> omega
/-! ### a heap without one address -/
def hid (H : Hp) (D : Addr) : Hp := fun b => if b = D then none else H b
theorem hid_ne {H : Hp} {D b : Addr} (h : b ≠ D) : hid H D b = H b := by unfold hid; rw [if_neg h]
theorem ex_hid (H : Hp) (D : Addr) : Ex (hid H D) H := fun b o e => by
  unfold hid at e
  split at e
  · cases e
  · exact e
theorem hid_ex {H H' : Hp} (e : Ex H H') (D : Addr) : Ex (hid H D) (hid H' D) := fun b o h => by
  unfold hid at h ⊢
  split at h
  · cases h
  · rename_i n
    rw [if_neg n]
    exact e b o h
theorem hid_upd (H : Hp) (D : Addr) (o : HO) : hid (upd H D o) D = hid H D := by
  funext b
  unfold hid
  split
  · rfl
  · rename_i n
    exact upd_ne n
/-- what is in the heap and is not at D -/
theorem hid_at {H : Hp} {D b : Addr} {o : HO} (h : H b = some o) (n : b ≠ D) : hid H D b = some o := by rw [hid_ne n]; exact h
section
variable {K : PySem.W.Frag} {σ : L2.St} {H H' : Hp} {ta tb tc td tl te : TE} {t : TT} {x y z : V}
/-- f(x, y, a new list): a new list -/
theorem el_call2L {sp : Sp} {E : XK} {xs zs : List V} (ha : Ev ta σ H x) (hb : Ev tb σ H y) (hc : EvL tc σ H xs) (hs : ∀ p H1, Ex H H1 → H1 p = some (.lst xs) → SpL sp [x, y, .ref p] H1 zs) : EvL (tCall sp [] E (tCons ta (tCons tb (tCons tc tNil)))) σ H zs := fun H1 e Q q =>
  ha H1 e _ fun H2 e2 => hb H2 (e.trans e2) _ fun H3 e3 => hc H3 ((e.trans e2).trans e3) _ fun p H4 _ e4 h4 => hs p H4 (((e.trans e2).trans e3).trans e4) h4 H4 (Ex.refl H4) Q (fun r H5 nr e5 h5 => q r H5 (fresh_back ((e2.trans e3).trans e4) nr) (((e2.trans e3).trans e4).trans e5) h5) E
/-- f(x, y, a new list, z): a new list -/
theorem el_call3L {sp : Sp} {E : XK} {xs zs : List V} (ha : Ev ta σ H x) (hb : Ev tb σ H y) (hc : EvL tc σ H xs) (hd : ∀ H1, Ex H H1 → Ev td σ H1 z) (hs : ∀ p H1, Ex H H1 → H1 p = some (.lst xs) → SpL sp [x, y, .ref p, z] H1 zs) : EvL (tCall sp [] E (tCons ta (tCons tb (tCons tc (tCons td tNil))))) σ H zs := fun H1 e Q q =>
  ha H1 e _ fun H2 e2 => hb H2 (e.trans e2) _ fun H3 e3 => hc H3 ((e.trans e2).trans e3) _ fun p H4 _ e4 h4 => hd H4 (((e.trans e2).trans e3).trans e4) H4 (Ex.refl H4) _ fun H5 e5 => hs p H5 ((((e.trans e2).trans e3).trans e4).trans e5) (e5 p _ h4) H5 (Ex.refl H5) Q (fun r H6 nr e6 h6 => q r H6 (fresh_back (((e2.trans e3).trans e4).trans e5) nr) ((((e2.trans e3).trans e4).trans e5).trans e6) h6) E
/-- [1 for asked, yes in talk if ..] -/
theorem el_cTalk {i j : Nat} {vs : List Nat} {a : Addr} {ts : List Addr} {l : List (List Int × Bool)} (f : List Int × Bool → Bool) (h : Ev tl σ H (.ref a)) (hx : SqL K H a (ts.map V.ref)) (hT : TalkAt K H ts l) (hz : ts.length ≤ 1000) (hw : ∀ x y, wipe (((wipe σ vs).set i (some x)).set j (some y)) vs = wipe σ vs)
    (ht : ∀ q y b H1, Ex H H1 → SqL K H1 b (q.map V.int) → EvT t (((wipe σ vs).set i (some (.ref b))).set j (some (.bl y))) H1 (f (q, y))) :
    EvL (tLc (iList K tl) (gTup K 2 (gCons (gName i) (gCons (gName j) gNil))) t (tC (.int 1)) vs) σ H (((l.filter f).map fun _ => (1 : Int)).map V.int) := fun H0 e Q k => h H0 e _ fun H1 e1 => by
  have e01 := e.trans e1
  refine ⟨a, rfl, ⟨_, ex_l e01 hx⟩, fun D nD => ?_⟩
  refine lc_list (xs := ts.map V.ref) (fun n H' => Ex H1 H' ∧ H' D = some (.lst ((((l.take n).filter f).map fun _ => (1 : Int)).map V.int))) ⟨Ex.new nD, upd_same⟩ (fun n H' _ p => ex_l (e01.trans p.1) hx) (fun n x H' hn p => ?_) (fun H' p => ?_)
  · obtain ⟨p1, p2⟩ := p
    rw [List.getElem?_map] at hn
    cases hq : ts[n]? with
    | none =>
      rw [hq] at hn
      cases hn
    | some u =>
      rw [hq] at hn
      obtain rfl : V.ref u = x := Option.some.inj hn
      obtain ⟨q, y, b, hg, h1, h2⟩ := (hT.ex (e01.trans p1)).get hq
      refine ⟨u, _, rfl, h1, rfl, _, _, rfl, _, [], rfl, rfl, hw _ _, ?_⟩
      refine ht q y b H' (e01.trans p1) h2 H' (Ex.refl H') _ fun H3 e3 => ?_
      have hlen : (l.take n).length ≤ 1000 := by
        have := hT.len
        rw [List.length_take]
        omega
      cases hf : f (q, y) with
      | true =>
        refine iteT ⟨_, e3 _ _ p2, ?_, Ex.mut (p1.trans e3) nD, ?_⟩
        · rw [List.length_map, List.length_map]
          exact small1000 (Nat.le_trans (List.length_filter_le _ _) hlen)
        · rw [upd_same, List.take_add_one, hg, Option.toList_some, List.filter_append, List.filter_cons, if_pos hf, List.map_append, List.map_append]
          rfl
      | false =>
        refine iteF ⟨p1.trans e3, ?_⟩
        rw [List.take_add_one, hg, Option.toList_some, List.filter_append, List.filter_cons, if_neg (by rw [hf]; exact Bool.false_ne_true), List.filter_nil, List.append_nil]
        exact e3 _ _ p2
  · obtain ⟨p1, p2⟩ := p
    rw [List.take_of_length_le (by rw [len_map, hT.len]; exact Nat.le_refl _)] at p2
    exact k D H' (fresh_back e1 nD) (e1.trans p1) p2
/-- [(list(asked), yes) for asked, yes in talk] -/
theorem copy_talk {i j : Nat} {vs : List Nat} {a : Addr} {ts : List Addr} {l : List (List Int × Bool)} {Q : VK} (hi : (wipe σ vs).length = σ.length) (hij : i ≠ j ∧ i < σ.length ∧ j < σ.length) (h : Ev tl σ H (.ref a)) (hx : SqL K H a (ts.map V.ref)) (hT : TalkAt K H ts l) (hz : ts.length ≤ 1000) (hw : ∀ x y, wipe (((wipe σ vs).set i (some x)).set j (some y)) vs = wipe σ vs)
    (k : ∀ D H1 us, H D = none → Ex H H1 → H1 D = some (.lst (us.map V.ref)) → TalkAt K H1 us l → Q (.ref D) H1) :
    tLc (iList K tl) (gTup K 2 (gCons (gName i) (gCons (gName j) gNil))) tYes (tTup (tCons (tCB (Evl.rListS K) (tCons (tVar i) tNil)) (tCons (tVar j) tNil))) vs σ H Q := h H (Ex.refl H) _ fun H1 e1 => by
  refine ⟨a, rfl, ⟨_, ex_l e1 hx⟩, fun D nD => ?_⟩
  refine lc_list (xs := ts.map V.ref) (fun n H' => ∃ us, Ex H1 H' ∧ H' D = some (.lst (us.map V.ref)) ∧ us.length = n ∧ TalkAt K (hid H' D) us (l.take n)) ⟨[], Ex.new nD, upd_same, rfl, .nil⟩ (fun n H' _ p => by
    obtain ⟨_, p1, _⟩ := p
    exact ex_l (e1.trans p1) hx) (fun n x H' hn p => ?_) (fun H' p => ?_)
  · obtain ⟨us, p1, p2, p4, p3⟩ := p
    rw [List.getElem?_map] at hn
    cases hq : ts[n]? with
    | none =>
      rw [hq] at hn
      cases hn
    | some u =>
      rw [hq] at hn
      obtain rfl : V.ref u = x := Option.some.inj hn
      obtain ⟨q, y, b, hg, h1, h2⟩ := (hT.ex (e1.trans p1)).get hq
      refine ⟨u, _, rfl, h1, rfl, _, _, rfl, _, [], rfl, rfl, hw _ _, ?_⟩
      have si : ((((wipe σ vs).set i (some (V.ref b))).set j (some (V.bl y))))[i]? = some (some (.ref b)) := by
        rw [List.getElem?_set_ne (Ne.symm hij.1), List.getElem?_set_self (by rw [hi]; exact hij.2.1)]
      have sj : ((((wipe σ vs).set i (some (V.ref b))).set j (some (V.bl y))))[j]? = some (some (.bl y)) := by
        rw [List.getElem?_set_self (by rw [List.length_set, hi]; exact hij.2.2)]
      unfold tYes
      dsimp only
      rw [if_pos rfl]
      refine ⟨_, si, b, _, rfl, .inl h2, fun c nc => ⟨_, sj, by show 2 ≤ sizeLine; decide, fun t nt => ?_⟩⟩
      have ncD : c ≠ D := fun z => by
        rw [z, p2] at nc
        cases nc
      have ntD : t ≠ D := fun z => by
        rw [z, upd_ne (Ne.symm ncD), p2] at nt
        cases nt
      have ntc : c ≠ t := fun z => by
        rw [← z, upd_same] at nt
        cases nt
      have e' : Ex H' (upd (upd H' c (.lst (q.map V.int))) t (.tup [.ref c, .bl y])) := (Ex.new nc).trans (Ex.new nt)
      refine ⟨_, e' _ _ p2, ?_, us ++ [t], Ex.mut (p1.trans e') nD, ?_, by simp [p4], ?_⟩
      · have hl : n < ts.length := (List.getElem?_eq_some_iff.mp hq).1
        rw [List.length_map]
        exact small1000 (by omega)
      · rw [upd_same, List.map_append]
        rfl
      · rw [hid_upd, List.take_add_one, hg, Option.toList_some]
        exact (p3.ex (hid_ex e' D)).snoc (st_of (hid_at upd_same ntD)) (sq_of (hid_at (by rw [upd_ne ntc]; exact upd_same) ncD))
  · obtain ⟨us, p1, p2, _, p3⟩ := p
    rw [List.take_of_length_le (by rw [len_map, hT.len]; exact Nat.le_refl _)] at p3
    exact k D H' us (fresh_back e1 nD) (e1.trans p1) p2 (p3.ex (ex_hid H' D))
end
theorem q_copyTalk {K : PySem.W.Frag} {σ : L2.St} {H : Hp} {tl : TE} {D : Ends} {tz : TS} {i j r : Nat} {vs : List Nat} {a : Addr} {ts : List Addr} {l : List (List Int × Bool)} (hi : (wipe σ vs).length = σ.length) (hij : i ≠ j ∧ i < σ.length ∧ j < σ.length) (h : Ev tl σ H (.ref a)) (hx : SqL K H a (ts.map V.ref)) (hT : TalkAt K H ts l) (hz : ts.length ≤ 1000) (hw : ∀ x y, wipe (((wipe σ vs).set i (some x)).set j (some y)) vs = wipe σ vs)
    (k : ∀ p H1 us, H p = none → Ex H H1 → H1 p = some (.lst (us.map V.ref)) → TalkAt K H1 us l → tz D (σ.set r (some (.ref p))) H1) :
    tSeq (tAsg (tLc (iList K tl) (gTup K 2 (gCons (gName i) (gCons (gName j) gNil))) tYes (tTup (tCons (tCB (Evl.rListS K) (tCons (tVar i) tNil)) (tCons (tVar j) tNil))) vs) (gName r)) tz D σ H :=
  copy_talk (Q := fun x H1 => tz D (σ.set r (some x)) H1) hi hij h hx hT hz hw k
theorem drop_last (ts : List Addr) : cutV (ts.map V.ref) none (some (-1)) = (ts.take (ts.length - 1)).map V.ref := by
  unfold cutV
  rw [HT.sIx_none, len_map, List.drop_zero, List.map_take]
  congr 1
  unfold HT.sIx
  simp only []
  split <;> omega
/-! ### weights -/
theorem sum_cast (f : Nat → Nat) : ∀ l : List Nat, (l.map fun i => ((f i : Nat) : Int)).sum = (((l.map f).sum : Nat) : Int)
  | [] => rfl
  | x :: r => by
    rw [List.map_cons, List.sum_cons, List.map_cons, List.sum_cons, sum_cast f r]
    omega
theorem wy_int (l q : Nat) : ((List.range l).map fun (i : Nat) => (ch q i : Int)).sum = (wy l q : Int) := sum_cast (ch q) (List.range l)
theorem Wt_int (L : Int) (q : Nat) : ∀ m : List Int, (m.map fun x => (wy (L + 1 - x).toNat q : Int)).sum = (Wt L m q : Int)
  | [] => rfl
  | x :: r => by
    rw [List.map_cons, List.sum_cons, W_cons, Wt_int L q r]
    omega
def row (n : Nat) : List Int := (List.range (n + 1)).map fun (i : Nat) => (ch n i : Int)
theorem row_len (n : Nat) : (row n).length = n + 1 := by simp [row]
theorem ch_self : ∀ n : Nat, ch n n = 1
  | 0 => rfl
  | n + 1 => by
    show ch n n + ch n (n + 1) = 1
    rw [ch_self n, ch_big n (n + 1) (by omega)]
theorem row_get {n i : Nat} (h : i < n + 1) : (row n).getD i 0 = (ch n i : Int) := getD_range (fun (i : Nat) => (ch n i : Int)) h
theorem row_succ (n : Nat) : [(1 : Int)] ++ ((List.range n).map fun (j : Nat) => (row n).getD j 0 + (row n).getD (j + 1) 0) ++ [1] = row (n + 1) := by
  have e : ((List.range n).map fun (j : Nat) => (row n).getD j 0 + (row n).getD (j + 1) 0) = (List.range n).map fun (j : Nat) => (ch (n + 1) (j + 1) : Int) := List.map_congr_left fun j hj => by
    have := List.mem_range.mp hj
    rw [row_get (by omega), row_get (by omega)]
    show _ = ((ch n j + ch n (j + 1) : Nat) : Int)
    omega
  rw [e]
  unfold row
  rw [List.range_succ (n := n + 1), List.map_append, List.range_succ_eq_map, List.map_cons, List.map_map, ch_zero]
  show _ = _ ++ [((ch (n + 1) (n + 1) : Nat) : Int)]
  rw [ch_self]
  rfl
theorem row_take (n : Nat) : ∀ l : Nat, ((row n).take l).sum = (wy l n : Int)
  | 0 => by rw [wy_zero]; rfl
  | l + 1 => by
    rw [List.take_add_one, List.sum_append, row_take n l, wy_succ]
    by_cases h : l < n + 1
    · have e : (row n)[l]? = some (ch n l : Int) := by
        unfold row
        rw [List.getElem?_map, List.getElem?_range h]
        rfl
      rw [e]
      simp
    · rw [List.getElem?_eq_none (by rw [row_len]; omega), ch_big n l (by omega)]
      simp
theorem cut_take (ns : List Int) (k : Int) (h : 0 ≤ k) : cutV (ns.map V.int) none (some k) = (ns.take k.toNat).map V.int := by
  unfold cutV
  rw [HT.sIx_none, len_map, List.drop_zero, List.map_take]
  have e : HT.sIx ns.length ns.length (some k) = min k.toNat ns.length := by
    have z := HT.sIx_nat ns.length ns.length k.toNat
    rw [Int.toNat_of_nonneg h] at z
    exact z
  rw [e]
  by_cases hk : k.toNat ≤ ns.length
  · rw [Nat.min_eq_left hk]
    rfl
  · rw [Nat.min_eq_right (by omega), List.take_of_length_le (by simp), List.take_of_length_le (by simp; omega)]
theorem sum_filter (p : Nat → Bool) (g : Nat → Int) : ∀ l : List Nat, (∀ x ∈ l, p x = false → g x = 0) → ((l.filter p).map g).sum = (l.map g).sum
  | [], _ => rfl
  | x :: r, h => by
    have ih := sum_filter p g r fun y hy => h y (List.mem_cons_of_mem _ hy)
    rw [List.filter_cons]
    cases hp : p x with
    | true => rw [if_pos rfl, List.map_cons, List.sum_cons, List.map_cons, List.sum_cons, ih]
    | false =>
      rw [if_neg Bool.false_ne_true, ih, List.map_cons, List.sum_cons, h x List.mem_cons_self hp]
      omega
theorem map_getD (h : Int → Int) (m : List Int) : ((List.range m.length).map fun (i : Nat) => h (m.getD i 0)) = m.map h := by
  refine List.ext_getElem? fun i => ?_
  rw [List.getElem?_map, List.getElem?_map]
  by_cases hi : i < m.length
  · have e5 : m.getD i 0 = m[i] := by rw [List.getD_eq_getElem?_getD, List.getElem?_eq_getElem hi] <;> rfl
    rw [List.getElem?_range hi, List.getElem?_eq_getElem hi]
    show some (h (m.getD i 0)) = some (h m[i])
    rw [e5]
  · rw [List.getElem?_eq_none (l := List.range m.length) (by simp; omega), List.getElem?_eq_none (by omega)]
    rfl
theorem stl_sum (L : Int) (m : List Int) (q : Nat) : ((stl L m).map fun t => (wy (L + 1 - m.getD t.toNat 0).toNat q : Int)).sum = (Wt L m q : Int) := by
  unfold stl
  rw [List.map_map]
  have e := sum_filter (fun i => decide (m.getD i 0 ≤ L)) (fun (i : Nat) => (wy (L + 1 - m.getD i 0).toNat q : Int)) (List.range m.length) fun x _ hx => by
    have z := of_decide_eq_false hx
    rw [show (L + 1 - m.getD x 0).toNat = 0 by omega, wy_zero]
    rfl
  rw [map_getD (fun x => (wy (L + 1 - x).toNat q : Int)) m, Wt_int] at e
  rw [← e]
  rfl
theorem stl_len (L : Int) (m : List Int) : (stl L m).length = sta L m := by
  unfold stl sta
  rw [List.length_map, ← List.countP_eq_length_filter]
  have e : ∀ (m : List Int), m = (List.range m.length).map fun (i : Nat) => m.getD i 0 := fun m => by
    have z := map_getD (fun x => x) m
    rw [List.map_id'] at z
    exact z.symm
  conv => rhs; rw [e m]
  rw [List.countP_map]
  rfl
section
variable {K : PySem.W.Frag} {σ : L2.St} {H H' : Hp} {ta tb : TE}
theorem el_cat {xs ys : List V} (ha : EvL ta σ H xs) (hb : EvL tb σ H ys) (hz : xs.length + ys.length ≤ 100000) : EvL (tOp rCat ta tb) σ H (xs ++ ys) := fun H1 e Q q =>
  ha H1 e _ fun p H2 _ e2 hp => hb H2 (e.trans e2) _ fun r H3 _ e3 hr => ⟨p, r, xs, ys, rfl, rfl, e3 _ _ hp, hr, sz_of hz, fun l nl => q l _ (fresh_back (e2.trans e3) nl) ((e2.trans e3).trans (Ex.new nl)) upd_same⟩
end
theorem mem_stl {L : Int} {m : List Int} {x : Int} (h : x ∈ stl L m) : ∃ i : Nat, x = (i : Int) ∧ i < m.length ∧ m.getD i 0 ≤ L := by
  unfold stl at h
  obtain ⟨i, hi, rfl⟩ := List.mem_map.mp h
  obtain ⟨h1, h2⟩ := List.mem_filter.mp hi
  exact ⟨i, rfl, List.mem_range.mp h1, of_decide_eq_true h2⟩
/-! ### texts -/
def tx (cs : List Nat) : Str := ⟨cs.toArray⟩
theorem tx_tl (cs : List Nat) : tl (tx cs) = cs := by simp [tl, tx]
theorem tx_len (cs : List Nat) : (tx cs).length = cs.length := by rw [len_tl, tx_tl]
theorem tx_app (a b : List Nat) : tx a ++ tx b = tx (a ++ b) := ext_tl (by rw [tl_append, tx_tl, tx_tl, tx_tl])
theorem tx_inj {a b : List Nat} (h : tx a = tx b) : a = b := by
  have e := congrArg tl h
  rwa [tx_tl, tx_tl] at e
theorem dec_tx (a b : List Nat) : decide (V.str (tx a) = V.str (tx b)) = decide (a = b) := by
  rw [Bool.eq_iff_iff, decide_eq_true_eq, decide_eq_true_eq]
  constructor
  · intro h
    exact tx_inj (V.str.inj h)
  · intro h
    rw [h]
theorem tx_join (ys : List Nat) : Txt.join (tx []) (ys.map fun c => tx [c]) = tx ys := by
  rw [join_eq]
  refine ext_tl ?_
  rw [tl_join, tx_tl, tx_tl, List.map_map]
  have e : ∀ ys : List Nat, joinL [] (ys.map (tl ∘ fun c => tx [c])) = ys := by
    intro ys
    induction ys with
    | nil => rfl
    | cons c r ih =>
      cases r with
      | nil => exact tx_tl [c]
      | cons d r =>
        show tl (tx [c]) ++ ([] ++ joinL [] ((d :: r).map (tl ∘ fun c => tx [c]))) = c :: d :: r
        rw [ih, tx_tl]
        rfl
  exact e ys
/-- a mark's sign, a sign's mark -/
def sg (L x : Int) : Nat := if x ≤ L then 48 + x.toNat else 120
def us (L : Int) (c : Nat) : Int := if c = 120 then L + 1 else (c : Int) - 48
theorem us_sg {L : Nat} {x : Int} (h2 : L ≤ 2) (h : 0 ≤ x ∧ x ≤ (L : Int) + 1) : us (L : Int) (sg (L : Int) x) = x := by
  unfold us sg
  by_cases hx : x ≤ (L : Int)
  · rw [if_pos hx, if_neg (by omega)]
    omega
  · rw [if_neg hx, if_pos rfl]
    omega
section
variable {K : PySem.W.Frag} {σ : L2.St} {H H' : Hp} {ta tb tc te tl0 : TE} {D : Ends} {tu tz : TS} {z : V}
def rAddS1 : R2 := fun x y H Q => ∃ i j, x = .str i ∧ y = .str j ∧ i.length + j.length ≤ sizeLine ∧ Q (.str (i ++ j)) H
theorem rv_addS {a b : List Nat} (h : a.length + b.length ≤ 100000) : RV rAddS1 (.str (tx a)) (.str (tx b)) H (.str (tx (a ++ b))) := fun H1 _ _ q => ⟨tx a, tx b, rfl, rfl, by rw [tx_len, tx_len]; exact sz_of h, by rw [tx_app]; exact q H1 (Ex.refl H1)⟩
theorem ev_addS {a b : List Nat} (ha : Ev ta σ H (.str (tx a))) (hb : Ev tb σ H (.str (tx b))) (h : a.length + b.length ≤ 100000) : Ev (tOp (fun x y H Q => ∃ i j, x = .str i ∧ y = .str j ∧ i.length + j.length ≤ sizeLine ∧ Q (.str (i ++ j)) H) ta tb) σ H (.str (tx (a ++ b))) := ev_op ha hb (rv_addS h)
theorem ev_slS {tl th : TO} {s : Str} {lo hi : Option Int} (h : Ev te σ H (.str s)) (h1 : EvO tl σ H lo) (h2 : EvO th σ H hi) (hz : s.length ≤ 1000) : Ev (tSl rSlS te tl th) σ H (.str (cutS s lo hi)) := fun H1 e Q q =>
  h H1 e _ fun H2 e2 => h1 H2 (e.trans e2) _ fun H3 e3 => h2 H3 ((e.trans e2).trans e3) _ fun H4 e4 => ⟨s, rfl, sz_of (by omega), q H4 ((e2.trans e3).trans e4)⟩
theorem ev_inS {c : Nat} {s : Str} (ha : Ev ta σ H (.str (tx [c]))) (hb : Ev tb σ H (.str s)) : Ev (tOp (fun x y H Q => ∃ (c : Nat) (z : Str), x = .str ⟨#[c]⟩ ∧ y = .str z ∧ Q (.bl (decide (c ∈ z.cps.toList))) H) ta tb) σ H (.bl (decide (c ∈ tl s))) := fun H1 e Q q =>
  ha H1 e _ fun H2 e2 => hb H2 (e.trans e2) _ fun H3 e3 => ⟨c, s, rfl, rfl, q H3 (e2.trans e3)⟩
theorem ev_idxS {a b : Str} {i : Nat} {rest : List Nat} (ha : Ev ta σ H (.str a)) (hb : Ev tb σ H (.str b)) (ho : Builtin.Str.occurrences a b 0 a.length 1 = i :: rest) :
    Ev (tM1 (fun x xs H Q => ∃ a b i rest, x = .str a ∧ xs = [.str b] ∧ Builtin.Str.occurrences a b 0 a.length 1 = i :: rest ∧ Q (.int (i : Nat)) H) ta tb) σ H (.int (i : Int)) := fun H1 e Q q =>
  ha H1 e _ fun H2 e2 => ⟨⟨a, rfl⟩, hb H2 (e.trans e2) _ fun H3 e3 => ⟨a, b, i, rest, rfl, rfl, ho, q H3 (e2.trans e3)⟩⟩
theorem ev_joinS {a : Str} {ys : List Str} (ha : Ev ta σ H (.str a)) (hb : EvL tb σ H (ys.map V.str)) (hz : (ys.map (·.length)).sum + ys.length * a.length ≤ 1000) :
    Ev (tM1 (fun x xs H Q => ∃ a p, ∃ ys : List Str, x = .str a ∧ xs = [.ref p] ∧ (SqL K H p (ys.map V.str) ∨ SqT K H p (ys.map V.str)) ∧ (ys.map (·.length)).sum + ys.length * a.length ≤ 16777216 ∧ Q (.str (Txt.join a ys)) H) ta tb) σ H (.str (Txt.join a ys)) := fun H1 e Q q =>
  ha H1 e _ fun H2 e2 => ⟨⟨a, rfl⟩, hb H2 (e.trans e2) _ fun p H3 _ e3 hp => ⟨a, p, ys, rfl, rfl, .inl (sq_of hp), by omega, q H3 (e2.trans e3)⟩⟩
/-- for sign in text -/
theorem s_forS {j : Nat} {cs : List Nat} (h : Ev tl0 σ H (.str (tx cs))) (Pv : Nat → L2.St → Hp → Prop) (h0 : ∀ H1, Ex H H1 → Pv 0 σ H1)
    (hs : ∀ i c σ' H', cs[i]? = some c → Pv i σ' H' → tu { D with nx := Pv (i + 1), ct := Pv (i + 1), bk := D.nx } (σ'.set j (some (.str (tx [c])))) H') (hd : ∀ σ' H', Pv cs.length σ' H' → D.nx σ' H') : tFor (iStr tl0) (gName j) tu D σ H :=
  h H (Ex.refl H) _ fun H1 e => ⟨tx cs, rfl, by
    refine ⟨fun i m σ' G => m = cs.length - i ∧ i ≤ cs.length ∧ Pv i σ' G, ⟨cs.length, by simp, Nat.zero_le _, h0 H1 e⟩, ?_⟩
    rintro i m σ' G ⟨rfl, hi, p⟩
    have hz : (tx cs).cps.size = cs.length := by simp [tx]
    by_cases hlt : i < cs.length
    · refine .inr ⟨show i < (tx cs).cps.size by omega, Pv (i + 1), fun σ2 G2 p' => ⟨cs.length - (i + 1), by omega, rfl, hlt, p'⟩, fun x G' y => ?_⟩
      obtain ⟨rfl, c, hc, rfl⟩ := y
      have hc2 : cs[i]? = some c := by
        rw [← hc]
        simp [tx]
      exact hs i c σ' _ hc2 p
    · have e2 : i = cs.length := by omega
      subst e2
      exact .inl ⟨show (tx cs).cps.size ≤ cs.length by omega, hd σ' G p⟩⟩
theorem q_forS {j : Nat} {cs : List Nat} (h : Ev tl0 σ H (.str (tx cs))) (Pv : Nat → L2.St → Hp → Prop) (h0 : ∀ H1, Ex H H1 → Pv 0 σ H1)
    (hs : ∀ i c σ' H', cs[i]? = some c → Pv i σ' H' → tu { D with nx := Pv (i + 1), ct := Pv (i + 1), bk := tz D } (σ'.set j (some (.str (tx [c])))) H') (hd : ∀ σ' H', Pv cs.length σ' H' → tz D σ' H') : tSeq (tFor (iStr tl0) (gName j) tu) tz D σ H :=
  s_forS (D := { D with nx := tz D }) h Pv h0 hs hd
/-- [e for x in a list of ints], texts -/
theorem el_cLS {a : Addr} {ns : List Int} {tl : TE} {j : Nat} {vs : List Nat} (g : Int → Str) (h : Ev tl σ H (.ref a)) (hx : SqL K H a (ns.map V.int)) (hz : ns.length ≤ 40000) (hw : ∀ x, wipe ((wipe σ vs).set j (some x)) vs = wipe σ vs)
    (he : ∀ (x : Int) H1, Ex H H1 → x ∈ ns → Ev te ((wipe σ vs).set j (some (.int x))) H1 (.str (g x))) : EvL (tLc (iList K tl) (gName j) tYes te vs) σ H ((ns.map g).map V.str) := by
  have e := el_lcL (K := K) (t := tYes) (te := te) (xs := ns.map V.int) (fun _ => true) (fun i => V.str (g (ns.getD i 0))) h hx (by rw [len_map]; exact hz) hw (fun _ _ _ _ _ => et_yes) (fun i x H1 e1 hi _ => by
    rw [List.getElem?_map] at hi
    cases q : ns[i]? with
    | none =>
      rw [q] at hi
      cases hi
    | some y =>
      rw [q] at hi
      have e2 : x = V.int y := (Option.some.inj hi).symm
      subst e2
      have e3 : ns.getD i 0 = y := by rw [List.getD_eq_getElem?_getD, q] <;> rfl
      rw [e3]
      exact he y H1 e1 (List.mem_of_getElem? q))
  rw [given_all, len_map] at e
  have e4 : ((List.range ns.length).map fun i => V.str (g (ns.getD i 0))) = (ns.map g).map V.str := by
    refine List.ext_getElem? fun i => ?_
    rw [List.getElem?_map, List.getElem?_map, List.getElem?_map]
    by_cases hi : i < ns.length
    · have e5 : ns.getD i 0 = ns[i] := by rw [List.getD_eq_getElem?_getD, List.getElem?_eq_getElem hi] <;> rfl
      rw [List.getElem?_range hi, List.getElem?_eq_getElem hi]
      show some (V.str (g (ns.getD i 0))) = some (V.str (g ns[i]))
      rw [e5]
    · rw [List.getElem?_eq_none (by simp; omega), List.getElem?_eq_none (by omega)]
      rfl
  rw [← e4]
  exact e
end
theorem s012 : Str.ofString "012" = tx [48, 49, 50] := by decide +kernel
theorem sX : Str.ofString "x" = tx [120] := by decide +kernel
theorem sE : Str.ofString "" = tx [] := by decide +kernel
theorem atS {cs : List Nat} {i : Nat} {c : Nat} (h : cs[i]? = some c) : atI (tx cs).cps.toList (i : Int) = some c := atI_nat (by simpa [tx] using h)
theorem cut1 {k : Nat} (h : k ≤ 2) : cutS (tx [48, 49, 50]) (some (k : Int)) (some ((k : Int) + 1)) = tx [48 + k] := by
  have h3 : k = 0 ∨ k = 1 ∨ k = 2 := by omega
  rcases h3 with rfl | rfl | rfl <;> decide +kernel
theorem cut0 {k : Nat} (h : k ≤ 2) : tl (cutS (tx [48, 49, 50]) none (some ((k : Int) + 1))) = ([48, 49, 50] : List Nat).take (k + 1) := by
  have h3 : k = 0 ∨ k = 1 ∨ k = 2 := by omega
  rcases h3 with rfl | rfl | rfl <;> decide +kernel
theorem occ {k : Nat} (h : k ≤ 2) : ∃ rest, Builtin.Str.occurrences (tx [48, 49, 50]) (tx [48 + k]) 0 (tx [48, 49, 50]).length 1 = k :: rest := by
  have h3 : k = 0 ∨ k = 1 ∨ k = 2 := by omega
  rcases h3 with rfl | rfl | rfl <;> exact ⟨[], by decide +kernel⟩
/-! ### dicts whose keys are tuples of a tuple of ints and an int -/
abbrev Ky := List Int × Int
def kyN (k : Ky) : NestedKey := .tup [.tup (k.1.map NestedKey.num), .num k.2]
theorem num_inj : ∀ {a b : List Int}, a.map NestedKey.num = b.map NestedKey.num → a = b
  | [], [], _ => rfl
  | [], _ :: _, h => by simp at h
  | _ :: _, [], h => by simp at h
  | x :: a, y :: b, h => by
    rw [List.map_cons, List.map_cons] at h
    injection h with h1 h2
    injection h1 with h1
    rw [h1, num_inj h2]
theorem kyN_inj {a b : Ky} (h : kyN a = kyN b) : a = b := by
  unfold kyN at h
  injection h with h
  injection h with h1 h2
  injection h1 with h1
  injection h2 with h2 _
  injection h2 with h2
  obtain ⟨a1, a2⟩ := a
  obtain ⟨b1, b2⟩ := b
  have e1 : a1 = b1 := num_inj h1
  have e2 : a2 = b2 := h2
  rw [e1, e2]
theorem depth_nums : ∀ l : List Int, NestedKey.depthAll (l.map NestedKey.num) = 0
  | [] => rfl
  | x :: r => by
    rw [List.map_cons, NestedKey.depthAll, depth_nums r]
    rfl
theorem kyN_depth (k : Ky) : (kyN k).depth ≤ 8 := by
  unfold kyN
  rw [NestedKey.depth, NestedKey.depthAll, NestedKey.depthAll, NestedKey.depthAll, NestedKey.depth, NestedKey.depth, depth_nums]
  decide
/-- at a stands such a tuple -/
def KeyAt (H : Hp) (a : Addr) (k : Ky) : Prop := ∃ c, H a = some (.tup [.ref c, .int k.2]) ∧ H c = some (.tup (k.1.map V.int))
theorem KeyAt.ex {H H' : Hp} {a : Addr} {k : Ky} (h : KeyAt H a k) (e : Ex H H') : KeyAt H' a k := by
  obtain ⟨c, h1, h2⟩ := h
  exact ⟨c, e _ _ h1, e _ _ h2⟩
theorem nested_ints {h : Heap} : ∀ {ns : List Int} {us : List Value}, Vals (ns.map V.int) us → NestedAll h (ns.map NestedKey.num) us
  | [], _, r => by cases r; exact .nil
  | x :: ns, _, r => by
    cases r with
    | cons r1 r2 =>
      obtain ⟨t, rfl⟩ := r1
      exact .cons (.int x t) (nested_ints r2)
section
variable {P : Program} {w : World} {H H' : Hp} {h : Heap} {a d : Addr} {k : Ky}
theorem key_is (ok : HOk P w H h) (e : KeyAt H a k) : (nestedKind P w).is h (kyN k) a := by
  obtain ⟨c, e1, e2⟩ := e
  obtain ⟨_, its, r, o, g1, g2, n, g3⟩ := (show ObjOk P w H h a (.tup [.ref c, .int k.2]) from ok a _ e1)
  obtain ⟨_, js, r', o', f1, f2, n', f3⟩ := (show ObjOk P w H h c (.tup (k.1.map V.int)) from ok c _ e2)
  refine ⟨.tup g1 g2 g3 ?_, kyN_depth k⟩
  cases r with
  | cons r1 r2 =>
    cases r2 with
    | cons r2 r3 =>
      cases r3
      cases r1
      obtain ⟨t, rfl⟩ := r2
      exact .cons (.tup f1 f2 f3 (nested_ints r')) (.cons (.int _ t) .nil)
/-- the dict's own object, by its entries -/
def ndP (P : Program) (w : World) (d : Addr) (xs : List (NestedKey × Addr × Value)) (h : Heap) : Prop :=
  (d == sysModules) = false ∧ ∃ o es ep, h.get? d = some o ∧ o.ExactDict ∧ o.data = .dict es ep ∧ es.toList = xs.map (entryOfKey (nestedKind P w)) ∧ (xs.map (·.1)).Nodup
abbrev Kvs := List (Ky × Bool)
def NRel (H : Hp) (kvs : Kvs) (xs : List (NestedKey × Addr × Value)) : Prop := Paired (fun (p : Ky × Bool) (x : NestedKey × Addr × Value) => x.1 = kyN p.1 ∧ KeyAt H x.2.1 p.1 ∧ x.2.2 = .bool p.2) kvs xs
/-- at d stands a dict of these keys and truth values -/
def DN (P : Program) (w : World) (H : Hp) (d : Addr) (kvs : Kvs) : Prop := ∃ xs, H d = some (.ext (ndP P w d xs)) ∧ NRel H kvs xs
theorem NRel.ex {kvs : Kvs} {xs : List (NestedKey × Addr × Value)} (r : NRel H kvs xs) (e : Ex H H') : NRel H' kvs xs := Paired.mapP r fun _ _ z => ⟨z.1, z.2.1.ex e, z.2.2⟩
theorem DN.ex {kvs : Kvs} (r : DN P w H d kvs) (e : Ex H H') : DN P w H' d kvs := by
  obtain ⟨xs, h1, h2⟩ := r
  exact ⟨xs, e _ _ h1, h2.ex e⟩
def lkN (kvs : Kvs) (k : Ky) : Option Bool := (kvs.find? fun p => decide (p.1 = k)).map (·.2)
def putN (kvs : Kvs) (k : Ky) (b : Bool) : Kvs := if (lkN kvs k).isSome then kvs.map (fun p => if p.1 = k then (p.1, b) else p) else kvs ++ [(k, b)]
theorem NRel.lk {kvs : Kvs} {xs : List (NestedKey × Addr × Value)} (r : NRel H kvs xs) (k : Ky) : (atKey xs (kyN k)).map (·.2) = (lkN kvs k).map Value.bool := by
  induction r with
  | nil => rfl
  | @cons p x ps xs hp _ ih =>
    obtain ⟨h1, _, h3⟩ := hp
    unfold atKey lkN
    rw [List.find?_cons, List.find?_cons]
    by_cases hk : p.1 = k
    · have e1 : decide (x.1 = kyN k) = true := decide_eq_true (by rw [h1, hk])
      have e2 : decide (p.1 = k) = true := decide_eq_true hk
      rw [e1, e2]
      show some x.2.2 = some (Value.bool p.2)
      rw [h3]
    · have e1 : decide (x.1 = kyN k) = false := decide_eq_false fun z => hk (kyN_inj (h1.symm.trans z))
      have e2 : decide (p.1 = k) = false := decide_eq_false hk
      rw [e1, e2]
      exact ih
theorem NRel.is_some {kvs : Kvs} {xs : List (NestedKey × Addr × Value)} (r : NRel H kvs xs) (k : Ky) : (atKey xs (kyN k)).isSome = (lkN kvs k).isSome := by
  have e := congrArg Option.isSome (r.lk k)
  rwa [Option.isSome_map, Option.isSome_map] at e
theorem NRel.put {kvs : Kvs} {xs : List (NestedKey × Addr × Value)} (r : NRel H kvs xs) {k : Ky} {a : Addr} (b : Bool) (hk : KeyAt H a k) : NRel H (putN kvs k b) (storedH xs (kyN k) a (.bool b)) := by
  unfold putN storedH
  rw [r.is_some k]
  by_cases q : (lkN kvs k).isSome = true
  · rw [if_pos q, if_pos q]
    clear q
    induction r with
    | nil => exact .nil
    | @cons p x ps xs hp _ ih =>
      rw [List.map_cons, List.map_cons]
      refine .cons ?_ ih
      obtain ⟨h1, h2, h3⟩ := hp
      unfold putAt
      by_cases hq : p.1 = k
      · rw [if_pos (by rw [h1, hq]), if_pos hq]
        exact ⟨h1, h2, rfl⟩
      · rw [if_neg (fun z => hq (kyN_inj (h1.symm.trans z))), if_neg hq]
        exact ⟨h1, h2, h3⟩
  · rw [if_neg q, if_neg q]
    exact Paired.snoc r ⟨rfl, hk, rfl⟩
theorem NRel.keys {kvs : Kvs} {xs : List (NestedKey × Addr × Value)} (r : NRel H kvs xs) : xs.map (·.1) = (kvs.map (·.1)).map kyN := by
  induction r with
  | nil => rfl
  | @cons p x ps xs hp _ ih => rw [List.map_cons, List.map_cons, List.map_cons, ih, hp.1]
theorem nd_ok (ok : HOk P w H h) {xs : List (NestedKey × Addr × Value)} {kvs : Kvs} (e : H d = some (.ext (ndP P w d xs))) (r : NRel H kvs xs) : (d == sysModules) = false ∧ h.DictOfH (nestedKind P w) d xs := by
  obtain ⟨⟨hd, o, es, ep, h1, h2, h3, h4, h5⟩, _⟩ := (show ObjOk P w H h d (.ext (ndP P w d xs)) from ok d _ e)
  refine ⟨hd, o, es, ep, h1, h2, h3, h4, fun x hx => ?_, h5⟩
  have all : ∀ {l : Kvs} {m : List (NestedKey × Addr × Value)}, NRel H l m → ∀ x ∈ m, (nestedKind P w).is h x.1 x.2.1 := by
    intro l m q
    induction q with
    | nil => intro x hx; exact nomatch hx
    | @cons p y ps ys hq t ih =>
      intro x hx
      rcases List.mem_cons.mp hx with e | hx
      · subst e
        rw [hq.1]
        exact key_is ok hq.2.1
      · exact ih x hx
  exact all r x hx
theorem nd_obj {xs : List (NestedKey × Addr × Value)} (hd : (d == sysModules) = false) (dd : h.DictOfH (nestedKind P w) d xs) : ObjOk P w H' h d (.ext (ndP P w d xs)) := by
  obtain ⟨o, es, ep, h1, h2, h3, h4, _, h5⟩ := dd
  refine ⟨⟨hd, o, es, ep, h1, h2, h3, h4, h5⟩, ⟨o, h1⟩, fun g1 g2 q k => ?_⟩
  obtain ⟨a1, o', es', ep', a2, a3⟩ := q
  exact ⟨a1, o', es', ep', k o' a2, a3⟩
end
section
variable {X : Cx}
theorem pe_dnewN {pos : Pos} : PE X (.Dict [] [] pos) (fun _ H Q => ∀ d, H d = none → Q (.ref d) (upd H d (.ext (ndP X.prog X.w d [])))) := ⟨fun pins s σ H Q I h =>
  wpAny_Dict_empty ⟨.ref s.heap.objs.size, _, I.laid (a := s.heap.objs.size) (t' := s.toks) (fun _ _ q => Heap.get?_push_of_some _ q) (Nat.le_refl _)
    (nd_obj (by
      have z := I.big
      exact beq_eq_false_iff_ne.mpr (Nat.ne_of_gt z)) (Heap.DictOfH.new s.heap)), rfl, h _ (I.hok.fresh (Nat.le_refl _))⟩⟩
def rInN (P : Program) (w : World) (neg : Bool) : R2 := fun x y H Q => ∃ a d k kvs, x = .ref a ∧ y = .ref d ∧ KeyAt H a k ∧ DN P w H d kvs ∧ Q (.bl (if neg then !(lkN kvs k).isSome else (lkN kvs k).isSome)) H
theorem op_inN (hu : X.A.units + 64 < cLine) : OpR X (compareOp .In) (rInN X.prog X.w false) := by
  intro pins s σ H x y v u Q I rx ry h
  obtain ⟨a, d, k, kvs, rfl, rfl, hk, ⟨xs, e, r⟩, q⟩ := h
  cases rx
  cases ry
  obtain ⟨hd, dd⟩ := nd_ok I.hok e r
  refine wpAny_in_heap (knd := nestedKind X.prog X.w) (by show X.A.in1.units + 8 < cLine; show X.A.units + 1 + 8 < cLine; omega) (key_is I.hok hk) hd dd ?_
  rw [r.is_some k]
  exact ⟨.bl (lkN kvs k).isSome, H, I.tok _, rfl, q⟩
theorem op_notInN (hu : X.A.units + 64 < cLine) : OpR X (compareOp .NotIn) (rInN X.prog X.w true) := by
  intro pins s σ H x y v u Q I rx ry h
  obtain ⟨a, d, k, kvs, rfl, rfl, hk, ⟨xs, e, r⟩, q⟩ := h
  cases rx
  cases ry
  obtain ⟨hd, dd⟩ := nd_ok I.hok e r
  refine wpAny_notIn_heap (knd := nestedKind X.prog X.w) (by show X.A.in1.units + 8 < cLine; show X.A.units + 1 + 8 < cLine; omega) (key_is I.hok hk) hd dd ?_
  rw [r.is_some k]
  exact ⟨.bl (!(lkN kvs k).isSome), H, I.tok _, rfl, q⟩
def rGetN (P : Program) (w : World) : R2 := fun x y H Q => ∃ a d k kvs b, x = .ref d ∧ y = .ref a ∧ KeyAt H a k ∧ DN P w H d kvs ∧ lkN kvs k = some b ∧ Q (.bl b) H
theorem ix_nest (hu : X.A.units + 64 < cLine) : IxR X (rGetN X.prog X.w) := by
  intro value slice pins s σ H x y v u Q I rx ry h hs
  obtain ⟨a, d, k, kvs, b, rfl, rfl, hk, ⟨xs, e, r⟩, hb, q⟩ := h
  cases rx
  cases ry
  obtain ⟨hd, dd⟩ := nd_ok I.hok e r
  have l := r.lk k
  rw [hb] at l
  obtain ⟨p, hp, hp2⟩ := Option.map_eq_some_iff.mp l
  refine tail_any dd.typeIs PySem.F.slot_dict_getitem.lookup (wpAny_getItem_heap (knd := nestedKind X.prog X.w) (by show X.A.in1.units + 8 < cLine; show X.A.units + 1 + 8 < cLine; omega) (key_is I.hok hk) dd hp ?_) hs
  rw [hp2]
  exact ⟨.bl b, H, I.tok _, rfl, q⟩
def rSetN (P : Program) (w : World) : TSet := fun o i v H Q => ∃ d a k kvs b, o = .ref d ∧ i = .ref a ∧ v = .bl b ∧ KeyAt H a k ∧ DN P w H d kvs ∧ kvs.length ≤ sizeLine ∧ ∀ ob, (∀ H1, Ex (hid H d) (hid H1 d) → H1 d = some ob → DN P w H1 d (putN kvs k b)) → Q (upd H d ob)
theorem set_nest (hu : X.A.units + 64 < cLine) : PSet X (rSetN X.prog X.w) := by
  intro pins s σ H o i v ov iv u Q I ro ri rv h
  obtain ⟨d, a, k, kvs, b, rfl, rfl, rfl, hk, ⟨xs, e, r⟩, hz, q⟩ := h
  cases ro
  cases ri
  cases rv
  obtain ⟨hd, dd⟩ := nd_ok I.hok e r
  have hlen : xs.length = kvs.length := (Paired.length r).symm
  refine wpAny_setItem_heap (knd := nestedKind X.prog X.w) (hsz := by omega) (by show X.A.in1.units + 8 < cLine; show X.A.units + 1 + 8 < cLine; omega) (key_is I.hok hk) dd fun h' dd' hs => ?_
  have nd : ∀ {c : Addr} {ys : List V}, H c = some (.tup ys) → c ≠ d := fun {c ys} hc z => by
    rw [z, e] at hc
    cases hc
  have kx : ∀ {H1 : Hp}, Ex (hid H d) (hid H1 d) → ∀ {c : Addr} {j : Ky}, KeyAt H c j → KeyAt H1 c j := fun {H1} eH {c j} hc => by
    obtain ⟨c2, q1, q2⟩ := hc
    exact ⟨c2, ex_hid H1 d _ _ (eH _ _ (hid_at q1 (nd q1))), ex_hid H1 d _ _ (eH _ _ (hid_at q2 (nd q2)))⟩
  refine ⟨_, I.write (x := d) (e := d) (o := .ext (ndP X.prog X.w d (storedH xs (kyN k) a (.bool b)))) (by rw [e]; exact True.intro) (.inl rfl) (fun c o hc z => (hs.2 c hc).trans z) (let ⟨o, _, _, ho, _⟩ := dd'; ⟨o, ho⟩) (nd_obj hd dd'), q _ fun H1 eH hd1 => ⟨_, hd1, ?_⟩⟩
  exact Paired.mapP (r.put b hk) fun p x z => ⟨z.1, kx eH z.2.1, z.2.2⟩
end
/-! ### counts as tuples -/
def ic (cs : List Nat) : List Int := cs.map fun (n : Nat) => (n : Int)
theorem ic_len (cs : List Nat) : (ic cs).length = cs.length := by simp [ic]
theorem ic_inj : ∀ {a b : List Nat}, ic a = ic b → a = b
  | [], [], _ => rfl
  | [], _ :: _, h => by simp [ic] at h
  | _ :: _, [], h => by simp [ic] at h
  | x :: a, y :: b, h => by
    have h1 : (x : Int) :: ic a = (y : Int) :: ic b := h
    injection h1 with h1 h2
    rw [ic_inj h2, Int.ofNat_inj.mp h1]
theorem ic_get {cs : List Nat} {i : Nat} (h : i < cs.length) : (ic cs).getD i 0 = (cs.getD i 0 : Int) := by
  unfold ic
  rw [List.getD_eq_getElem?_getD, List.getElem?_map, List.getElem?_eq_getElem h, List.getD_eq_getElem?_getD, List.getElem?_eq_getElem h]
  rfl
theorem ic_sum : ∀ cs : List Nat, (ic cs).sum = (cs.sum : Int)
  | [] => rfl
  | x :: r => by
    show ((x : Int) :: ic r).sum = _
    rw [List.sum_cons, List.sum_cons, ic_sum r]
    omega
theorem ic_app (a b : List Nat) : ic (a ++ b) = ic a ++ ic b := List.map_append ..
/-- tuples of counts, each at its address -/
inductive TupsAt (H : Hp) : List Addr → List (List Nat) → Prop
  | nil : TupsAt H [] []
  | cons {r : Addr} {u : List Nat} {rs : List Addr} {us : List (List Nat)} : H r = some (.tup ((ic u).map V.int)) → TupsAt H rs us → TupsAt H (r :: rs) (u :: us)
theorem TupsAt.ex {H H' : Hp} {rs : List Addr} {us : List (List Nat)} (h : TupsAt H rs us) (e : Ex H H') : TupsAt H' rs us := by
  induction h with
  | nil => exact .nil
  | cons h _ ih => exact .cons (e _ _ h) ih
theorem TupsAt.len {H : Hp} {rs : List Addr} {us : List (List Nat)} (h : TupsAt H rs us) : rs.length = us.length := by
  induction h with
  | nil => rfl
  | cons _ _ ih => simp [ih]
theorem TupsAt.app {H : Hp} {rs ss : List Addr} {us ws : List (List Nat)} (h : TupsAt H rs us) (g : TupsAt H ss ws) : TupsAt H (rs ++ ss) (us ++ ws) := by
  induction h with
  | nil => exact g
  | cons h _ ih => exact .cons h ih
theorem TupsAt.get {H : Hp} {rs : List Addr} {us : List (List Nat)} (h : TupsAt H rs us) : ∀ {i : Nat} {r : Addr}, rs[i]? = some r → ∃ u, us[i]? = some u ∧ H r = some (.tup ((ic u).map V.int)) := by
  induction h with
  | nil => intro i r e; simp at e
  | @cons r u rs us h _ ih =>
    intro i r' e
    cases i with
    | zero =>
      obtain rfl : r = r' := Option.some.inj e
      exact ⟨u, rfl, h⟩
    | succ i => exact ih e
theorem TupsAt.ne {H : Hp} {D : Addr} {xs : List V} (hD : H D = some (.lst xs)) {rs : List Addr} {us : List (List Nat)} (h : TupsAt H rs us) : TupsAt (hid H D) rs us := by
  induction h with
  | nil => exact .nil
  | cons h _ ih => exact .cons (hid_at h fun z => by rw [z, hD] at h; cases h) ih
/-- [taken + (some,) for some in range(count + 1)] -/
theorem part_lc {K : PySem.W.Frag} {σ : L2.St} {H : Hp} {ta : TA} {i j : Nat} {vs : List Nat} {c : Nat} {r : Addr} {u : List Nat} {Q : VK} (h : EvA ta σ H [.int ((c : Int) + 1)]) (hc : c ≤ 1000) (hu : u.length ≤ 1000) (hr : H r = some (.tup ((ic u).map V.int)))
    (hi : ∀ x, ((wipe σ vs).set j (some x))[i]? = some (some (.ref r))) (hj : ∀ x, ((wipe σ vs).set j (some x))[j]? = some (some x)) (hw : ∀ x, wipe ((wipe σ vs).set j (some x)) vs = wipe σ vs)
    (k : ∀ D H1 ss, H D = none → Ex H H1 → H1 D = some (.lst (ss.map V.ref)) → TupsAt H1 ss ((List.range (c + 1)).map fun s => u ++ [s]) → Q (.ref D) H1) :
    tLc (iRng1 ta) (gName j) tYes (tOp (rCatA K) (tVar i) (tTup (tCons (tVar j) tNil))) vs σ H Q := h H (Ex.refl H) _ fun H1 e1 => by
  refine ⟨_, rfl, by omega, by omega, fun D nD => ?_⟩
  have ec : ((c : Int) + 1).toNat = c + 1 := by omega
  refine lc_range (lo := 0) (n := ((c : Int) + 1).toNat) (fun n H' => ∃ ss, Ex H1 H' ∧ H' D = some (.lst (ss.map V.ref)) ∧ ss.length = n ∧ TupsAt (hid H' D) ss ((List.range n).map fun s => u ++ [s])) ⟨[], Ex.new nD, upd_same, rfl, .nil⟩ (fun n H' hn p => ?_) (fun H' p => ?_)
  · obtain ⟨ss, p1, p2, p3, p4⟩ := p
    have e0 : (0 : Int) + (n : Int) = (n : Int) := Int.zero_add _
    show wipe ((wipe σ vs).set j (some (.int ((0 : Int) + (n : Int))))) vs = wipe σ vs ∧ tYes ((wipe σ vs).set j (some (.int ((0 : Int) + (n : Int))))) H' _
    rw [e0]
    refine ⟨hw _, ?_⟩
    unfold tYes
    dsimp only
    rw [if_pos rfl]
    have hrr := (e1.trans p1) _ _ hr
    have nrD : r ≠ D := fun z => by
      rw [z, p2] at hrr
      cases hrr
    have fin : ∀ (H4 : Hp) (t : Addr), Ex H' H4 → H4 t = some (.tup ((ic (u ++ [n])).map V.int)) → ∃ acc, H4 D = some (.lst acc) ∧ acc.length < sizeLine ∧ ∃ ss, Ex H1 (upd H4 D (.lst (acc ++ [.ref t]))) ∧ (upd H4 D (.lst (acc ++ [.ref t]))) D = some (.lst (ss.map V.ref)) ∧ ss.length = n + 1 ∧ TupsAt (hid (upd H4 D (.lst (acc ++ [.ref t]))) D) ss ((List.range (n + 1)).map fun s => u ++ [s]) := fun H4 t e4 ht => by
      have ntD : t ≠ D := fun z => by
        rw [z, e4 _ _ p2] at ht
        cases ht
      refine ⟨_, e4 _ _ p2, ?_, ss ++ [t], Ex.mut (p1.trans e4) nD, ?_, by simp [p3], ?_⟩
      · rw [len_map]
        exact Nat.lt_of_le_of_lt (by omega : ss.length ≤ 1001) (by decide)
      · rw [upd_same, List.map_append]
        rfl
      · rw [hid_upd, List.range_succ, List.map_append]
        exact (p4.ex (hid_ex e4 D)).app (.cons (hid_at ht ntD) .nil)
    refine ⟨_, hi _, _, hj _, by show 1 ≤ sizeLine; decide, fun b nb => ?_⟩
    have eb : Ex H' (upd H' b (.tup [.int (n : Int)])) := Ex.new nb
    refine ⟨r, b, (ic u).map V.int, [.int (n : Int)], rfl, rfl, st_of (eb _ _ hrr), st_of upd_same, ?_, fun hn0 => ?_, (fun _ h1 => nomatch h1), fun _ _ t nt => ?_⟩
    · rw [len_map, ic_len]
      exact sz_of (by show u.length + 1 ≤ 100000; omega)
    · refine fin _ b eb ?_
      have u0 : u = [] := by
        have z := congrArg List.length hn0
        rw [len_map, ic_len] at z
        exact List.length_eq_zero_iff.mp z
      rw [u0, upd_same]
      rfl
    · refine fin _ t (eb.trans (Ex.new nt)) ?_
      rw [upd_same, ic_app, List.map_append]
      rfl
  · obtain ⟨ss, p1, p2, _, p4⟩ := p
    rw [ec] at p4
    exact k D H' ss (fresh_back e1 nD) (e1.trans p1) p2 (p4.ex (ex_hid H' D))
theorem prt1_app (a b : List (List Nat)) (c : Nat) : prt1 (a ++ b) c = prt1 a c ++ prt1 b c := by
  unfold prt1
  rw [List.flatMap_append]
theorem prt1_one (u : List Nat) (c : Nat) : prt1 [u] c = (List.range (c + 1)).map fun s => u ++ [s] := by
  unfold prt1
  simp
theorem prt1_len (c : Nat) : ∀ us : List (List Nat), (prt1 us c).length = us.length * (c + 1)
  | [] => by simp [prt1]
  | u :: us => by
    have e : prt1 (u :: us) c = prt1 [u] c ++ prt1 us c := prt1_app [u] us c
    rw [e, List.length_append, prt1_one, List.length_map, List.length_range, prt1_len c us, List.length_cons, Nat.add_mul]
    omega
theorem prt1_mem_len {us : List (List Nat)} {c n : Nat} (h : ∀ u ∈ us, u.length = n) : ∀ u ∈ prt1 us c, u.length = n + 1 := by
  intro u hu
  obtain ⟨t, ht, s, _, rfl⟩ := mem_prt1.mp hu
  rw [List.length_append, h t ht]
  rfl
/-- the rows of partial ways -/
def prtT (cs : List Nat) (i : Nat) : List (List Nat) := (cs.take i).foldl prt1 [[]]
theorem prtT_zero (cs : List Nat) : prtT cs 0 = [[]] := rfl
theorem prtT_succ {cs : List Nat} {i c : Nat} (h : cs[i]? = some c) : prtT cs (i + 1) = prt1 (prtT cs i) c := by
  unfold prtT
  rw [List.take_add_one, h, Option.toList_some, List.foldl_append]
  rfl
theorem prtT_all (cs : List Nat) : prtT cs cs.length = prt cs := by
  unfold prtT prt
  rw [List.take_of_length_le (Nat.le_refl _)]
theorem prtT_len {cs : List Nat} (h8 : ∀ c ∈ cs, c ≤ 8) : ∀ i : Nat, i ≤ cs.length → (prtT cs i).length ≤ 9 ^ i
  | 0, _ => Nat.le_refl _
  | i + 1, hi => by
    have hlt : i < cs.length := by omega
    have hc : cs[i]? = some cs[i] := List.getElem?_eq_getElem hlt
    rw [prtT_succ hc, prt1_len, Nat.pow_succ]
    have := prtT_len h8 i (by omega)
    have := h8 _ (List.getElem_mem hlt)
    exact Nat.mul_le_mul (by omega) (by omega)
theorem prtT_mem {cs : List Nat} : ∀ i : Nat, i ≤ cs.length → ∀ u ∈ prtT cs i, u.length = i
  | 0, _, u, hu => by
    have e : u = [] := by simpa [prtT] using hu
    rw [e]
    rfl
  | i + 1, hi, u, hu => by
    have hlt : i < cs.length := by omega
    rw [prtT_succ (List.getElem?_eq_getElem hlt)] at hu
    exact prt1_mem_len (prtT_mem i (by omega)) u hu
theorem mvd_get {cs st : List Nat} {i : Nat} (h : i + 1 < cs.length) : (mvd cs st).getD (i + 1) 0 = st.getD (i + 1) 0 + cs.getD i 0 - st.getD i 0 := by
  unfold mvd
  show ((List.range (cs.length - 1)).map _).getD i 0 = _
  rw [List.getD_eq_getElem?_getD, List.getElem?_map, List.getElem?_range (by omega)]
  rfl
theorem mvd_len {cs st : List Nat} (h : 1 ≤ cs.length) : (mvd cs st).length = cs.length := by
  unfold mvd
  rw [List.length_cons, List.length_map, List.length_range]
  omega
theorem lft_len {cs st : List Nat} (h : st.length = cs.length) : (lft cs st).length = cs.length := by
  unfold lft
  rw [List.length_zipWith, h, Nat.min_self]
theorem Tk.lft {t cs : List Nat} (h : Tk t cs) : Tk (LA.lft cs t) cs := by
  induction h with
  | nil => exact .nil
  | cons h _ ih => exact .cons (Nat.sub_le _ _) ih
theorem mvd_sum : ∀ {t cs : List Nat}, Tk t cs → cs.length ≤ 3 → (mvd cs t).sum ≤ cs.sum
  | _, _, .nil, _ => by simp [mvd]
  | _, _, .cons (t := a) (c := x) h .nil, _ => by
    show ([a] : List Nat).sum ≤ ([x] : List Nat).sum
    simp
    try omega
  | _, _, .cons (t := a) (c := x) h (.cons (t := b) (c := y) h2 .nil), _ => by
    show ([a, b + x - a] : List Nat).sum ≤ ([x, y] : List Nat).sum
    simp
    try omega
  | _, _, .cons (t := a) (c := x) h (.cons (t := b) (c := y) h2 (.cons (t := c) (c := z) h3 .nil)), _ => by
    show ([a, b + x - a, c + y - b] : List Nat).sum ≤ ([x, y, z] : List Nat).sum
    simp
    try omega
  | _, _, .cons _ (.cons _ (.cons _ (.cons _ _))), hl => by
    simp at hl
theorem le_sum : ∀ {cs : List Nat} {c : Nat}, c ∈ cs → c ≤ cs.sum
  | x :: r, c, h => by
    rw [List.sum_cons]
    rcases List.mem_cons.mp h with e | h
    · omega
    · have := le_sum h
      omega
theorem find_none_snoc {α : Type} {p : α → Bool} : ∀ {l : List α} {i : Nat} {x : α}, l[i]? = some x → (l.take i).find? p = none → p x = true → l.find? p = some x
  | [], i, x, h, _, _ => by simp at h
  | y :: r, 0, x, h, _, hp => by
    obtain rfl : y = x := Option.some.inj h
    rw [List.find?_cons, hp]
  | y :: r, i + 1, x, h, hn, hp => by
    rw [List.take_succ_cons, List.find?_cons] at hn
    cases hy : p y with
    | true =>
      rw [hy] at hn
      cases hn
    | false =>
      rw [hy] at hn
      rw [List.find?_cons, hy]
      exact find_none_snoc (l := r) h hn hp
theorem find_take_succ {α : Type} {p : α → Bool} {l : List α} {i : Nat} {x : α} (h : l[i]? = some x) (hn : (l.take i).find? p = none) (hp : p x = false) : (l.take (i + 1)).find? p = none := by
  rw [List.take_add_one, h, Option.toList_some, List.find?_append, hn]
  simp [hp]
/-! ### zip of two tuples in a comprehension -/
theorem zip_turns {K : PySem.W.Frag} {a b D : Addr} {xs ys : List V} {g : TG} {te : TE} {vs : List Nat} {σ : L2.St} {H1 : Hp} {Qd : Hp → Prop} (hl : xs.length = ys.length) (Z : Nat → Hp → Prop) (h0 : Z 0 (upd H1 D (.lst []))) (hq : ∀ i G, Z i G → SqT K G a xs ∧ SqT K G b ys)
    (hs : ∀ i x y T G, xs[i]? = some x → ys[i]? = some y → Z i G → G T = none → g (.ref T) (wipe σ vs) (upd G T (.tup [x, y])) fun σ2 G2 => wipe σ2 vs = wipe σ vs ∧ te σ2 G2 fun z G4 => ∃ acc, G4 D = some (.lst acc) ∧ acc.length < sizeLine ∧ Z (i + 1) (upd G4 D (.lst (acc ++ [z])))) (hd : ∀ G, Z xs.length G → Qd G) :
    ∃ U : Nat → Nat → Hp → Prop, (∃ m, U 0 m (upd H1 D (.lst []))) ∧ ∀ i m G, U i m G → ((RZ.ItzT K a b).stop i G ∧ Qd G) ∨ ((RZ.ItzT K a b).go i G ∧ ∃ Nx : Hp → Prop, (∀ G', Nx G' → ∃ m', m' < m ∧ U (i + 1) m' G') ∧
      ∀ x G', (RZ.ItzT K a b).yld i G x G' → g x (wipe σ vs) G' fun σ2 G2 => wipe σ2 vs = wipe σ vs ∧ tYes σ2 G2 fun t G3 => if t = true then te σ2 G3 fun z G4 => ∃ acc, G4 D = some (.lst acc) ∧ acc.length < sizeLine ∧ Nx (upd G4 D (.lst (acc ++ [z]))) else Nx G3) := by
  refine ⟨fun i m G => i ≤ xs.length ∧ m + i = xs.length ∧ Z i G, ⟨xs.length, Nat.zero_le _, rfl, h0⟩, ?_⟩
  rintro i m G ⟨hi, hm, z⟩
  obtain ⟨qx, qy⟩ := hq i G z
  rcases Nat.lt_or_ge i xs.length with hlt | hge
  · have hlt2 : i < ys.length := by omega
    refine .inr ⟨⟨xs, ys, xs[i], ys[i], qx, qy, List.getElem?_eq_getElem hlt, List.getElem?_eq_getElem hlt2⟩, Z (i + 1), fun G' z' => ⟨m - 1, by omega, hlt, by omega, z'⟩, ?_⟩
    rintro x G' ⟨T, x', y', rfl, nT, rfl, f1, f2⟩
    exact hs i x' y' T G (f1 xs qx) (f2 ys qy) z nT
  · have e : i = xs.length := by omega
    subst e
    exact .inl ⟨⟨xs, ys, qx, qy, Or.inl (Nat.le_refl _)⟩, hd G z⟩
/-- [e for x, y in zip(t, u)], ints -/
theorem el_zip {K : PySem.W.Frag} {σ : L2.St} {H : Hp} {ta tb te : TE} {i j : Nat} {vs : List Nat} {a b : Addr} {as bs : List Int} (f : Int → Int → Int) (ha : Ev ta σ H (.ref a)) (hb : Ev tb σ H (.ref b)) (hA : H a = some (.tup (as.map V.int))) (hB : H b = some (.tup (bs.map V.int))) (hl : as.length = bs.length) (hz : as.length ≤ 1000)
    (hw : ∀ x y, wipe (((wipe σ vs).set i (some x)).set j (some y)) vs = wipe σ vs) (he : ∀ (x y : Int) G, Ev te (((wipe σ vs).set i (some (.int x))).set j (some (.int y))) G (.int (f x y))) :
    EvL (tLc (RZ.iZipA K (tCons ta (tCons tb tNil))) (gTup K 2 (gCons (gName i) (gCons (gName j) gNil))) tYes te vs) σ H ((List.zipWith f as bs).map V.int) := fun H0 e Q k => ha H0 e _ fun H1 e1 => hb H1 (e.trans e1) _ fun H2 e2 => by
  have e12 := (e.trans e1).trans e2
  refine ⟨a, b, as.map V.int, bs.map V.int, rfl, .inr ⟨st_of (e12 _ _ hA), st_of (e12 _ _ hB), fun D nD => ?_⟩⟩
  refine zip_turns (xs := as.map V.int) (ys := bs.map V.int) (by rw [len_map, len_map, hl]) (fun n G => Ex H2 G ∧ G D = some (.lst (((List.zipWith f as bs).take n).map V.int))) ⟨Ex.new nD, upd_same⟩ (fun n G z => ⟨st_of ((e12.trans z.1) _ _ hA), st_of ((e12.trans z.1) _ _ hB)⟩) (fun n x y T G hx hy z nT => ?_) (fun G z => ?_)
  · obtain ⟨p1, p2⟩ := z
    rw [List.getElem?_map] at hx hy
    cases qa : as[n]? with
    | none =>
      rw [qa] at hx
      cases hx
    | some u =>
      cases qb : bs[n]? with
      | none =>
        rw [qb] at hy
        cases hy
      | some v =>
        rw [qa] at hx
        rw [qb] at hy
        obtain rfl : V.int u = x := Option.some.inj hx
        obtain rfl : V.int v = y := Option.some.inj hy
        have hn : n < as.length := (List.getElem?_eq_some_iff.mp qa).1
        refine ⟨T, _, rfl, st_of upd_same, rfl, _, _, rfl, _, [], rfl, rfl, hw _ _, ?_⟩
        refine he u v _ _ (Ex.refl _) _ fun G4 e4 => ?_
        have eT := (Ex.new (o := .tup [.int u, .int v]) nT).trans e4
        refine ⟨_, eT _ _ p2, ?_, Ex.mut (p1.trans eT) nD, ?_⟩
        · rw [len_map, List.length_take]
          exact small1000 (by rw [List.length_zipWith]; omega)
        · rw [upd_same, List.take_add_one, List.getElem?_zipWith, qa, qb, Option.toList_some, List.map_append]
          rfl
  · obtain ⟨p1, p2⟩ := z
    rw [List.take_of_length_le (by rw [len_map, List.length_zipWith]; omega)] at p2
    exact k D G (fresh_back (e1.trans e2) nD) ((e1.trans e2).trans p1) p2
theorem zip_lft : ∀ {cs t : List Nat}, Tk t cs → List.zipWith (fun x y => x - y) (ic cs) (ic t) = ic (lft cs t)
  | _, _, .nil => rfl
  | _, _, .cons (t := a) (c := x) h r => by
    show ((x : Int) - (a : Int)) :: _ = ((x - a : Nat) : Int) :: _
    have e : ((x : Int) - (a : Int)) = ((x - a : Nat) : Int) := by omega
    rw [e]
    congr 1
    exact zip_lft r
/-! ### what is known -/
structure VKv (n : Nat) (kvs : Kvs) : Prop where
  nodup : (kvs.map (·.1)).Nodup
  ok : ∀ p ∈ kvs, ∃ (cs : List Nat) (q : Nat), p.1 = (ic cs, (q : Int)) ∧ cs.length = n ∧ cs.sum ≤ 8 ∧ q ≤ 24 ∧ p.2 = En q cs
theorem VKv.nil (n : Nat) : VKv n [] := ⟨List.nodup_nil, fun _ h => nomatch h⟩
theorem lk_mem {kvs : Kvs} {k : Ky} {b : Bool} (h : lkN kvs k = some b) : (k, b) ∈ kvs := by
  unfold lkN at h
  obtain ⟨p, hp, rfl⟩ := Option.map_eq_some_iff.mp h
  have e : p.1 = k := by simpa using List.find?_some hp
  subst e
  exact List.mem_of_find?_eq_some hp
theorem lk_none {kvs : Kvs} {k : Ky} (h : lkN kvs k = none) : k ∉ kvs.map (·.1) := fun hm => by
  obtain ⟨p, hp, e⟩ := List.mem_map.mp hm
  unfold lkN at h
  rw [Option.map_eq_none_iff, List.find?_eq_none] at h
  exact h p hp (decide_eq_true e)
theorem lk_put {kvs : Kvs} {k : Ky} {b : Bool} (h : lkN kvs k = none) : lkN (putN kvs k b) k = some b := by
  unfold putN
  rw [h]
  show lkN (kvs ++ [(k, b)]) k = some b
  unfold lkN at h ⊢
  rw [Option.map_eq_none_iff] at h
  rw [List.find?_append, h]
  simp
theorem nodup_snoc {α : Type} : ∀ {l : List α} {x : α}, l.Nodup → x ∉ l → (l ++ [x]).Nodup
  | [], x, _, _ => by simp
  | a :: l, x, h, hx => by
    obtain ⟨h1, h2⟩ := List.nodup_cons.mp h
    show (a :: (l ++ [x])).Nodup
    refine List.nodup_cons.mpr ⟨fun m => ?_, nodup_snoc h2 fun m => hx (List.mem_cons_of_mem _ m)⟩
    rcases List.mem_append.mp m with m | m
    · exact h1 m
    · exact hx (List.mem_cons.mpr (Or.inl (List.mem_singleton.mp m).symm))
theorem VKv.put {n : Nat} {kvs : Kvs} (h : VKv n kvs) {cs : List Nat} {q : Nat} (hk : lkN kvs (ic cs, (q : Int)) = none) (h1 : cs.length = n) (h2 : cs.sum ≤ 8) (h3 : q ≤ 24) : VKv n (putN kvs (ic cs, (q : Int)) (En q cs)) := by
  unfold putN
  rw [hk]
  show VKv n (kvs ++ [((ic cs, (q : Int)), En q cs)])
  refine ⟨?_, fun p hp => ?_⟩
  · rw [List.map_append]
    exact nodup_snoc h.nodup (lk_none hk)
  · rcases List.mem_append.mp hp with hp | hp
    · exact h.ok p hp
    · obtain rfl : p = _ := List.mem_singleton.mp hp
      exact ⟨cs, q, rfl, h1, h2, h3, rfl⟩
theorem VKv.get {n : Nat} {kvs : Kvs} (h : VKv n kvs) {cs : List Nat} {q : Nat} {b : Bool} (hk : lkN kvs (ic cs, (q : Int)) = some b) : b = En q cs := by
  obtain ⟨cs', q', e, _, _, _, eb⟩ := h.ok _ (lk_mem hk)
  have e1 : ic cs = ic cs' := congrArg Prod.fst e
  have e2 : (q : Int) = (q' : Int) := congrArg Prod.snd e
  have e3 := ic_inj e1
  have e4 : q = q' := by omega
  subst e3 e4
  exact eb
/-! no more keys than there are -/
theorem nodup_le {α : Type} [DecidableEq α] : ∀ {l u : List α}, l.Nodup → (∀ x ∈ l, x ∈ u) → l.length ≤ u.length
  | [], _, _, _ => Nat.zero_le _
  | x :: l, u, h, hs => by
    obtain ⟨h1, h2⟩ := List.nodup_cons.mp h
    have hx := hs x List.mem_cons_self
    have ih := nodup_le (l := l) (u := u.erase x) h2 fun y hy => by
      have hne : y ≠ x := fun z => h1 (z ▸ hy)
      exact (List.mem_erase_of_ne hne).mpr (hs y (List.mem_cons_of_mem _ hy))
    rw [List.length_erase_of_mem hx] at ih
    have := List.length_pos_of_mem hx
    rw [List.length_cons]
    omega
def allL (k : Nat) : Nat → List (List Nat)
  | 0 => [[]]
  | n + 1 => (allL k n).flatMap fun l => (List.range k).map fun x => x :: l
theorem flat_len {α β : Type} (f : α → List β) (c : Nat) : ∀ l : List α, (∀ x ∈ l, (f x).length = c) → (l.flatMap f).length = l.length * c
  | [], _ => by simp
  | x :: l, h => by
    rw [List.flatMap_cons, List.length_append, h x List.mem_cons_self, flat_len f c l fun y hy => h y (List.mem_cons_of_mem _ hy), List.length_cons, Nat.add_mul]
    omega
theorem allL_len (k : Nat) : ∀ n : Nat, (allL k n).length = k ^ n
  | 0 => rfl
  | n + 1 => by
    show ((allL k n).flatMap _).length = _
    rw [flat_len _ k _ (fun l _ => by simp), allL_len k n, Nat.pow_succ]
theorem mem_allL {k : Nat} : ∀ {l : List Nat}, (∀ x ∈ l, x < k) → l ∈ allL k l.length
  | [], _ => by simp [allL]
  | x :: l, h => by
    show (x :: l) ∈ (allL k l.length).flatMap _
    refine List.mem_flatMap.mpr ⟨l, mem_allL fun y hy => h y (List.mem_cons_of_mem _ hy), ?_⟩
    exact List.mem_map.mpr ⟨x, List.mem_range.mpr (h x List.mem_cons_self), rfl⟩
theorem VKv.len {n : Nat} {kvs : Kvs} (h : VKv n kvs) (hn : n ≤ 3) : kvs.length ≤ 20000 := by
  have z := nodup_le (u := (allL 9 n).flatMap fun cs => (List.range 25).map fun (q : Nat) => ((ic cs, (q : Int)) : Ky)) h.nodup (fun k hk => by
    obtain ⟨p, hp, rfl⟩ := List.mem_map.mp hk
    obtain ⟨cs, q, e, h1, h2, h3, _⟩ := h.ok p hp
    rw [e]
    refine List.mem_flatMap.mpr ⟨cs, ?_, List.mem_map.mpr ⟨q, List.mem_range.mpr (by omega), rfl⟩⟩
    rw [← h1]
    exact mem_allL fun x hx => by
      have := le_sum hx
      omega)
  rw [flat_len _ 25 _ (fun l _ => by simp), allL_len, List.length_map] at z
  have : 9 ^ n ≤ 9 ^ 3 := Nat.pow_le_pow_right (by omega) hn
  omega
/-! a heap in which the dict at d alone changed -/
section
variable {H H1 H2 : Hp} {d c : Addr} {o : HO}
theorem keep_at (e : Ex (hid H d) (hid H1 d)) (h : H c = some o) (n : c ≠ d) : H1 c = some o := ex_hid H1 d _ _ (e _ _ (hid_at h n))
theorem tups_keep (e : Ex (hid H d) (hid H1 d)) {φ : Heap → Prop} (hd : H d = some (.ext φ)) {rs : List Addr} {us : List (List Nat)} (h : TupsAt H rs us) : TupsAt H1 rs us := by
  induction h with
  | nil => exact .nil
  | cons h _ ih => exact .cons (keep_at e h fun z => by rw [z, hd] at h; cases h) ih
theorem key_keep (e : Ex (hid H d) (hid H1 d)) {φ : Heap → Prop} (hd : H d = some (.ext φ)) {a : Addr} {k : Ky} (h : KeyAt H a k) : KeyAt H1 a k := by
  obtain ⟨c, h1, h2⟩ := h
  exact ⟨c, keep_at e h1 (fun z => by rw [z, hd] at h1; cases h1), keep_at e h2 (fun z => by rw [z, hd] at h2; cases h2)⟩
end
theorem DN.at {P : Program} {w : World} {H : Hp} {d : Addr} {kvs : Kvs} (h : DN P w H d kvs) : ∃ φ, H d = some (.ext φ) := by
  obtain ⟨xs, e, _⟩ := h
  exact ⟨_, e⟩
section
variable {P : Program} {w : World} {H : Hp} {a d : Addr} {k : Ky} {kvs : Kvs}
theorem rv_notInN (hk : KeyAt H a k) (hd : DN P w H d kvs) : RV (rInN P w true) (.ref a) (.ref d) H (.bl (!(lkN kvs k).isSome)) := fun H1 e Q q => ⟨a, d, k, kvs, rfl, rfl, hk.ex e, hd.ex e, q H1 (Ex.refl H1)⟩
theorem rv_inN (hk : KeyAt H a k) (hd : DN P w H d kvs) : RV (rInN P w false) (.ref a) (.ref d) H (.bl (lkN kvs k).isSome) := fun H1 e Q q => ⟨a, d, k, kvs, rfl, rfl, hk.ex e, hd.ex e, q H1 (Ex.refl H1)⟩
theorem rv_getN {b : Bool} (hk : KeyAt H a k) (hd : DN P w H d kvs) (hb : lkN kvs k = some b) : RV (rGetN P w) (.ref d) (.ref a) H (.bl b) := fun H1 e Q q => ⟨a, d, k, kvs, b, rfl, rfl, hk.ex e, hd.ex e, hb, q H1 (Ex.refl H1)⟩
end
theorem En_found {cs : List Nat} (h : cs.sum ≤ 1) : ∀ q : Nat, En q cs = true
  | 0 => decide_eq_true h
  | q + 1 => by
    unfold En
    rw [decide_eq_true h]
    rfl
theorem En_not {cs : List Nat} {q : Nat} (h : ¬ cs.sum ≤ 1) (h2 : q = 0 ∨ heavy cs q = true) : En q cs = false := by
  cases q with
  | zero => exact decide_eq_false h
  | succ q =>
    have h3 : heavy cs (q + 1) = true := h2.resolve_left (by omega)
    unfold En
    rw [decide_eq_false h, h3]
    rfl
theorem En_spl {cs : List Nat} {q : Nat} (h : ¬ cs.sum ≤ 1) (h2 : heavy cs (q + 1) = false) : En (q + 1) cs = (spl q cs).isSome := by
  rw [spl_E, decide_eq_false h, h2]
  rfl
theorem putN_over {kvs : Kvs} {k : Ky} {b : Bool} (h : lkN kvs k = some b) (hn : (kvs.map (·.1)).Nodup) : putN kvs k b = kvs := by
  unfold putN
  rw [h]
  show kvs.map (fun p => if p.1 = k then (p.1, b) else p) = kvs
  have hm := lk_mem h
  conv => rhs; rw [← List.map_id' kvs]
  refine List.map_congr_left fun p hp => ?_
  by_cases e : p.1 = k
  · rw [if_pos e]
    subst e
    obtain ⟨i, hi, ei⟩ := List.getElem_of_mem hp
    obtain ⟨j, hj, ej⟩ := List.getElem_of_mem hm
    have q : i = j := by
      refine (List.getElem_inj (xs := kvs.map (·.1)) (h₀ := by simpa using hi) (h₁ := by simpa using hj) hn).mp ?_
      rw [List.getElem_map, List.getElem_map, ei, ej]
    subst q
    rw [ei] at ej
    exact ej.symm
  · rw [if_neg e]
theorem VKv.over {n : Nat} {kvs : Kvs} {k : Ky} {b : Bool} (h : VKv n kvs) (hl : lkN kvs k = some b) : VKv n (putN kvs k b) := by
  rw [putN_over hl h.nodup]
  exact h
theorem VKv.lk_over {n : Nat} {kvs : Kvs} {k : Ky} {b : Bool} (h : VKv n kvs) (hl : lkN kvs k = some b) : lkN (putN kvs k b) k = some b := by
  rw [putN_over hl h.nodup]
  exact hl
/-- an expression whose value is the list at p -/
def ELv (te : TE) (σ : L2.St) (H : Hp) (p : Addr) (xs : List V) : Prop := ∀ H1, Ex H H1 → ∀ Q : VK, (∀ H2, Ex H1 H2 → H2 p = some (.lst xs) → Q (.ref p) H2) → te σ H1 Q
theorem eu_tupV {K : PySem.W.Frag} {σ : L2.St} {H : Hp} {ta : TE} {p : Addr} {xs : List V} (ha : ELv ta σ H p xs) : EvU (tCB (rTupS K) (tCons ta tNil)) σ H xs := fun H1 e Q q =>
  ha H1 e _ fun H2 e2 h2 => ⟨p, xs, rfl, Or.inl ⟨sq_of h2, fun l hl => q l _ (fresh_back e2 hl) (e2.trans (Ex.new hl)) upd_same⟩⟩
section
variable {K : PySem.W.Frag} {σ : L2.St} {H : Hp}
/-- a name of a list, where a new list would do -/
theorem el_var {i : Nat} {p : Addr} {xs : List V} (h : σ[i]? = some (some (.ref p))) (hp : H p = some (.lst xs)) : ELv (tVar i) σ H p xs := fun H1 e Q q => ⟨_, h, q H1 (Ex.refl H1) (e _ _ hp)⟩
end
theorem ex_of_hid {H G H' : Hp} {d : Addr} (e : Ex H G) (n : H d = none) (h : Ex (hid G d) (hid H' d)) : Ex H H' := fun b o hb =>
  keep_at h (e _ _ hb) fun z => by rw [z, n] at hb; cases hb
def lg (n : Nat) : Nat := if n ≤ 1 then 0 else if n ≤ 2 then 1 else if n ≤ 4 then 2 else 3
theorem lg_need : ∀ n : _root_.Fin 9, needC [n.val] = lg n.val := by decide +kernel
theorem lg_nd {m : List Int} (h : m.length ≤ 8) : nd 0 m = lg (m.count 0) := by
  have hc : m.count 0 ≤ 8 := Nat.le_trans List.count_le_length h
  have z := lg_need ⟨m.count 0, by omega⟩
  exact z
theorem lg_step {n i : Nat} (hn : n ≤ 8) (hi : i ≤ lg n) : (2 ^ i < n) = (i < lg n) := by
  have h9 : n = 0 ∨ n = 1 ∨ n = 2 ∨ n = 3 ∨ n = 4 ∨ n = 5 ∨ n = 6 ∨ n = 7 ∨ n = 8 := by omega
  have h4 : i = 0 ∨ i = 1 ∨ i = 2 ∨ i = 3 := by
    unfold lg at hi
    split at hi
    · omega
    · split at hi
      · omega
      · split at hi <;> omega
  rcases h9 with rfl | rfl | rfl | rfl | rfl | rfl | rfl | rfl | rfl <;> rcases h4 with rfl | rfl | rfl | rfl <;> simp [lg] at hi ⊢
/-! ### a question as its things -/
def ixs (bs : List Bool) : List Int := ((List.range bs.length).filter fun i => bs.getD i false).map fun (i : Nat) => (i : Int)
theorem ixs_snoc (bs : List Bool) (b : Bool) : ixs (bs ++ [b]) = if b = true then ixs bs ++ [(bs.length : Int)] else ixs bs := by
  unfold ixs
  rw [List.length_append, List.length_singleton, List.range_succ, List.filter_append, List.map_append]
  have e : (List.range bs.length).filter (fun i => (bs ++ [b]).getD i false) = (List.range bs.length).filter fun i => bs.getD i false := List.filter_congr fun i hi => by
    have := List.mem_range.mp hi
    rw [List.getD_eq_getElem?_getD, List.getElem?_append_left this, List.getD_eq_getElem?_getD]
  have e2 : (bs ++ [b]).getD bs.length false = b := by
    rw [List.getD_eq_getElem?_getD, List.getElem?_append_right (Nat.le_refl _), Nat.sub_self]
    rfl
  rw [e, List.filter_cons, e2]
  cases b <;> simp
theorem mem_ixs {bs : List Bool} {x : Int} : x ∈ ixs bs ↔ ∃ i : Nat, x = (i : Int) ∧ i < bs.length ∧ bs.getD i false = true := by
  unfold ixs
  constructor
  · intro h
    obtain ⟨i, hi, rfl⟩ := List.mem_map.mp h
    obtain ⟨h1, h2⟩ := List.mem_filter.mp hi
    exact ⟨i, rfl, List.mem_range.mp h1, h2⟩
  · rintro ⟨i, rfl, h1, h2⟩
    exact List.mem_map.mpr ⟨i, List.mem_filter.mpr ⟨List.mem_range.mpr h1, h2⟩, rfl⟩
theorem qb_ixs (bs : List Bool) : qb (ixs bs) bs.length = bs := by
  unfold qb
  refine List.ext_getElem? fun i => ?_
  rw [List.getElem?_map]
  by_cases hi : i < bs.length
  · rw [List.getElem?_range hi, List.getElem?_eq_getElem hi]
    show some (hasI (ixs bs) (i : Int)) = some bs[i]
    congr 1
    unfold hasI
    rw [Bool.eq_iff_iff, decide_eq_true_eq, mem_ixs]
    have e : bs.getD i false = bs[i] := by
      rw [List.getD_eq_getElem?_getD, List.getElem?_eq_getElem hi]
      rfl
    constructor
    · rintro ⟨j, hj, _, h⟩
      have hij : i = j := by omega
      subst hij
      rwa [e] at h
    · intro h
      exact ⟨i, rfl, hi, by rw [e]; exact h⟩
  · rw [List.getElem?_eq_none (by simp; omega), List.getElem?_eq_none (by omega)]
    rfl
theorem ixs_rise : ∀ (n : Nat) (bs : List Bool), bs.length = n → Rise (-1) (ixs bs) (n : Int)
  | 0, bs, h => by
    have e : bs = [] := List.length_eq_zero_iff.mp h
    subst e
    trivial
  | n + 1, bs, h => by
    obtain ⟨pre, b, rfl⟩ : ∃ pre b, bs = pre ++ [b] := ⟨bs.dropLast, bs.getLast (fun z => by rw [z] at h; cases h), (List.dropLast_concat_getLast _).symm⟩
    have hp : pre.length = n := by
      rw [List.length_append, List.length_singleton] at h
      omega
    have ih := ixs_rise n pre hp
    rw [ixs_snoc]
    split
    · rw [hp]
      exact rise_snoc ih (by omega) (Int.le_refl _) fun x hx => (rise_mem ih x hx).2
    · exact rise_up ih (by omega)
theorem ixs_len (bs : List Bool) : (ixs bs).length ≤ bs.length := by
  unfold ixs
  rw [List.length_map]
  have z := List.length_filter_le (fun i => bs.getD i false) (List.range bs.length)
  rwa [List.length_range] at z
theorem afq_ixs {L : Int} {m : List Int} {bs : List Bool} (h : bs.length = m.length) (y : Bool) : afq L m (ixs bs) y = aft L m bs y := by
  rw [afq_aft, ← h, qb_ixs]
theorem ic_set (t : List Nat) (k v : Nat) : (ic t).set k (v : Int) = ic (t.set k v) := by
  unfold ic
  rw [List.map_set]
theorem rise_get {n : Int} : ∀ {qs : List Int} {b : Int}, Rise b qs n → ∀ {i : Nat}, i < qs.length → b < qs.getD i 0 ∧ qs.getD i 0 < n ∧ (0 < i → qs.getD (i - 1) 0 < qs.getD i 0)
  | [], _, _, i, h => by simp at h
  | x :: r, b, ⟨h1, h2, h3⟩, 0, _ => ⟨h1, h2, fun z => absurd z (by omega)⟩
  | x :: r, b, ⟨h1, h2, h3⟩, i + 1, h => by
    have hi : i < r.length := by
      rw [List.length_cons] at h
      omega
    obtain ⟨g1, g2, g3⟩ := rise_get h3 hi
    refine ⟨?_, g2, fun _ => ?_⟩
    · show b < r.getD i 0
      omega
    · cases i with
      | zero => exact g1
      | succ i => exact g3 (by omega)
end LA


namespace LW
open PySem PySem.Spec PyProof.Rows L2 Evl LA TL
local macro_rules | `(tactic| walk_at "ev") => `(tactic| repeat' (first
  | exact ev_c
  | exact ev_var rfl
  | exact ea_nil
  | exact eo_none
  | refine' ea_cons ?_ ?_
  | refine' eo_some ?_
  | refine' ev_op ?_ ?_ rv_I0
  | refine' ev_op ?_ ?_ rv_eqI
  | refine' ev_op ?_ ?_ rv_neI
  | refine' ev_op ?_ ?_ rv_eqB
  | refine' ev_op ?_ ?_ rv_neB
  | refine' ev_op ?_ ?_ rv_isN
  | refine' ev_op ?_ ?_ rv_notN
  | refine' ev_op ?_ ?_ (rv_I ?_)
  | refine' ev_un ?_ ru_neg
  | refine' et_test ?_
  | refine' et_B ?_
  | refine' et_not ?_
  | refine' ev_notV ?_))

def topS (i : Nat) : Stmt := PySem.Challenge.pw_lieask_k03_needs_of_few.main.body.getD i (.Pass ⟨0, 0, 0, 0⟩)
abbrev s_asked_lies : Stmt := topS 7
abbrev n_asked_lies : List Str := ["lies"]
theorem sc_asked_lies : FnScope n_asked_lies ["lies"] (defScope s_asked_lies) := ⟨rfl, rfl, rfl, by decide +kernel, rfl, by decide +kernel, by decide +kernel⟩
abbrev s_asked_marks : Stmt := topS 8
abbrev n_asked_marks : List Str := ["marks", "lies", "mark"]
theorem sc_asked_marks : FnScope n_asked_marks ["marks", "lies"] (defScope s_asked_marks) := ⟨rfl, rfl, rfl, by decide +kernel, rfl, by decide +kernel, by decide +kernel⟩
abbrev s_picks : Stmt := topS 10
abbrev n_picks : List Str := ["total", "some", "ways", "k"]
theorem sc_picks : FnScope n_picks ["total", "some"] (defScope s_picks) := ⟨rfl, rfl, rfl, by decide +kernel, rfl, by decide +kernel, by decide +kernel⟩
abbrev s_ways_left : Stmt := topS 11
abbrev n_ways_left : List Str := ["lies", "many", "some"]
theorem sc_ways_left : FnScope n_ways_left ["lies", "many"] (defScope s_ways_left) := ⟨rfl, rfl, rfl, by decide +kernel, rfl, by decide +kernel, by decide +kernel⟩
abbrev s_counted : Stmt := topS 13
abbrev n_counted : List Str := ["marks", "lies", "mark"]
theorem sc_counted : FnScope n_counted ["marks", "lies"] (defScope s_counted) := ⟨rfl, rfl, rfl, by decide +kernel, rfl, by decide +kernel, by decide +kernel⟩
abbrev s_parts : Stmt := topS 14
abbrev n_parts : List Str := ["counts", "found", "count", "longer", "taken", "some"]
theorem sc_parts : FnScope n_parts ["counts"] (defScope s_parts) := ⟨rfl, rfl, rfl, by decide +kernel, rfl, by decide +kernel, by decide +kernel⟩
abbrev s_moved : Stmt := topS 15
abbrev n_moved : List Str := ["counts", "stay", "found", "mark"]
theorem sc_moved : FnScope n_moved ["counts", "stay"] (defScope s_moved) := ⟨rfl, rfl, rfl, by decide +kernel, rfl, by decide +kernel, by decide +kernel⟩
abbrev s_heavy : Stmt := topS 16
abbrev n_heavy : List Str := ["counts", "many", "rows", "k", "lies", "mark"]
theorem sc_heavy : FnScope n_heavy ["counts", "many"] (defScope s_heavy) := ⟨rfl, rfl, rfl, by decide +kernel, rfl, by decide +kernel, by decide +kernel⟩
abbrev s_enough : Stmt := topS 17
abbrev n_enough : List Str := ["counts", "many", "known", "key"]
theorem sc_enough : FnScope n_enough ["counts", "many", "known"] (defScope s_enough) := ⟨rfl, rfl, rfl, by decide +kernel, rfl, by decide +kernel, by decide +kernel⟩
abbrev s_split : Stmt := topS 18
abbrev n_split : List Str := ["counts", "many", "known", "taken", "left", "count", "some"]
theorem sc_split : FnScope n_split ["counts", "many", "known"] (defScope s_split) := ⟨rfl, rfl, rfl, by decide +kernel, rfl, by decide +kernel, by decide +kernel⟩
abbrev s_need : Stmt := topS 19
abbrev n_need : List Str := ["marks", "lies", "counts", "known", "many"]
theorem sc_need : FnScope n_need ["marks", "lies"] (defScope s_need) := ⟨rfl, rfl, rfl, by decide +kernel, rfl, by decide +kernel, by decide +kernel⟩
abbrev s__law_cell_at : Stmt := topS 21
abbrev n__law_cell_at : List Str := ["script", "k"]
theorem sc__law_cell_at : FnScope n__law_cell_at ["script", "k"] (defScope s__law_cell_at) := ⟨rfl, rfl, rfl, by decide +kernel, rfl, by decide +kernel, by decide +kernel⟩
abbrev s__law_whole : Stmt := topS 22
abbrev n__law_whole : List Str := ["found"]
theorem sc__law_whole : FnScope n__law_whole ["found"] (defScope s__law_whole) := ⟨rfl, rfl, rfl, by decide +kernel, rfl, by decide +kernel, by decide +kernel⟩
abbrev s__law_marks_by : Stmt := topS 23
abbrev n__law_marks_by : List Str := ["script", "sizes", "lies", "things", "marks", "thing"]
theorem sc__law_marks_by : FnScope n__law_marks_by ["script", "sizes"] (defScope s__law_marks_by) := ⟨rfl, rfl, rfl, by decide +kernel, rfl, by decide +kernel, by decide +kernel⟩
abbrev s__law_asked_by : Stmt := topS 24
abbrev n__law_asked_by : List Str := ["cell", "things", "found", "thing"]
theorem sc__law_asked_by : FnScope n__law_asked_by ["cell", "things"] (defScope s__law_asked_by) := ⟨rfl, rfl, rfl, by decide +kernel, rfl, by decide +kernel, by decide +kernel⟩
abbrev s__law_after : Stmt := topS 25
abbrev n__law_after : List Str := ["marks", "lies", "asked", "yes", "found", "thing", "told_so"]
theorem sc__law_after : FnScope n__law_after ["marks", "lies", "asked", "yes"] (defScope s__law_after) := ⟨rfl, rfl, rfl, by decide +kernel, rfl, by decide +kernel, by decide +kernel⟩
abbrev s__law_stands : Stmt := topS 26
abbrev n__law_stands : List Str := ["marks", "lies", "thing"]
theorem sc__law_stands : FnScope n__law_stands ["marks", "lies"] (defScope s__law_stands) := ⟨rfl, rfl, rfl, by decide +kernel, rfl, by decide +kernel, by decide +kernel⟩
abbrev s__law_enough : Stmt := topS 27
abbrev n__law_enough : List Str := ["marks", "lies", "many", "known", "key", "total", "mark", "number", "asked", "yes", "no"]
theorem sc__law_enough : FnScope n__law_enough ["marks", "lies", "many", "known"] (defScope s__law_enough) := ⟨rfl, rfl, rfl, by decide +kernel, rfl, by decide +kernel, by decide +kernel⟩
abbrev s_law : Stmt := topS 28
abbrev n_law : List Str := ["script", "marks", "lies", "due", "known", "handed", "found"]
theorem sc_law : FnScope n_law ["script"] (defScope s_law) := ⟨rfl, rfl, rfl, by decide +kernel, rfl, by decide +kernel, by decide +kernel⟩
structure Txt (K : PySem.W.Frag) (mg : Str → Option Value) : Prop where
  f_asked_lies : Fn K mg "asked_lies" s_asked_lies ["lies"]
  f_asked_marks : Fn K mg "asked_marks" s_asked_marks ["marks", "lies"]
  f_picks : Fn K mg "picks" s_picks ["total", "some"]
  f_ways_left : Fn K mg "ways_left" s_ways_left ["lies", "many"]
  f_counted : Fn K mg "counted" s_counted ["marks", "lies"]
  f_parts : Fn K mg "parts" s_parts ["counts"]
  f_moved : Fn K mg "moved" s_moved ["counts", "stay"]
  f_heavy : Fn K mg "heavy" s_heavy ["counts", "many"]
  f_enough : Fn K mg "enough" s_enough ["counts", "many", "known"]
  f_split : Fn K mg "split" s_split ["counts", "many", "known"]
  f_need : Fn K mg "need" s_need ["marks", "lies"]
  f__law_cell_at : Fn K mg "_law_cell_at" s__law_cell_at ["script", "k"]
  f__law_whole : Fn K mg "_law_whole" s__law_whole ["found"]
  f__law_marks_by : Fn K mg "_law_marks_by" s__law_marks_by ["script", "sizes"]
  f__law_asked_by : Fn K mg "_law_asked_by" s__law_asked_by ["cell", "things"]
  f__law_after : Fn K mg "_law_after" s__law_after ["marks", "lies", "asked", "yes"]
  f__law_stands : Fn K mg "_law_stands" s__law_stands ["marks", "lies"]
  f__law_enough : Fn K mg "_law_enough" s__law_enough ["marks", "lies", "many", "known"]
  c_MOST_THINGS : ∃ t, mg "MOST_THINGS" = some (.int 8 t)
  c_MOST_LIES : ∃ t, mg "MOST_LIES" = some (.int 2 t)
  b_len : mg "len" = none
  b_range : mg "range" = none
  b_int : mg "int" = none
  b_sum : mg "sum" = none
  b_list : mg "list" = none
  b_tuple : mg "tuple" = none
  b_sorted : mg "sorted" = none
  b_zip : mg "zip" = none
  b_isinstance : mg "isinstance" = none
  b_ValueError : mg "ValueError" = none
  b_bool : mg "bool" = none
section
variable {P : Program} {w : World} {K : PySem.W.Frag} {mg : Str → Option Value} {base : Heap}
/-! ### _law_cell_at -/
def spCell (K : PySem.W.Frag) : Sp := fun vs H Q _ => ∃ (a : Addr) (ns : List Int) (k : Int), vs = [.ref a, .int k] ∧ SqL K H a (ns.map V.int) ∧ 0 ≤ k ∧ RetV (.int (cl ns k)) H Q
theorem v_cell {H : Hp} {a : Addr} {ns : List Int} {k : Int} (hS : SqL K H a (ns.map V.int)) (h0 : 0 ≤ k) : SpV (spCell K) [.ref a, .int k] H (.int (cl ns k)) := fun H1 e Q q E => ⟨a, ns, k, rfl, ex_l e hS, h0, q⟩
theorem ok_cell (T : Txt K mg) : Good P w K mg base CX0 1 "_law_cell_at" ["script", "k"] (spCell K) := by
  refine Good.of T.f__law_cell_at sc__law_cell_at (fun vs H Q E h => ?_) (fun f cdv A outer s H vs Q E hr h => ?_)
  · obtain ⟨a, ns, k, rfl, _⟩ := h
    rfl
  obtain ⟨a, ns, k, rfl, hS, h0, q⟩ := h
  refine ⟨_, (pss_cons (ps_if (pt_cmpR op_lt (pv 1) (pe_callB (kc_len (K := K) rfl) (by rfl) T.b_len (by decide +kernel) (pa_cons (pv 0) pa_nil)) (nomark _)) (pss_one (ps_ret (pe_ix (kix_list (K := K) rfl) (pv 0) (pv 1) (fun _ _ => rfl)))) pss_nil)
      (pss_one (ps_ret pe_int))), ?_⟩
  refine q_when (b := decide (k < ((ns.map V.int).length : Int))) (by walk_at "ev"; exact ev_len (ev_var rfl) hS) (fun hb H1 e => ?_) (fun hb H1 e => ?_)
  · have hk : k < (ns.length : Int) := by
      have z := of_decide_eq_true hb
      rwa [len_map] at z
    have hat := at_int (ns := ns) (i := k.toNat) (by omega)
    rw [Int.toNat_of_nonneg h0] at hat
    exact s_ret (ev_op (ev_var rfl) (ev_var rfl) (rv_ixL (ex_l e hS) hat)) fun H2 e2 => q H2 (e.trans e2)
  · have hk : ¬ k < (ns.length : Int) := by
      have z := of_decide_eq_false hb
      rwa [len_map] at z
    have e0 : cl ns k = 0 := by
      unfold cl
      rw [List.getD_eq_getElem?_getD, List.getElem?_eq_none (by omega)]
      rfl
    rw [e0] at q
    exact s_ret ev_c fun H2 e2 => q H2 (e.trans e2)

/-! ### _law_whole -/
def spWhole (K : PySem.W.Frag) : Sp := fun vs H Q _ => ∃ (i : Int), vs = [.int i] ∧ RetV (.bl true) H Q
theorem v_whole {H : Hp} {i : Int} : SpV (spWhole K) [.int i] H (.bl true) := fun H1 e Q q E => ⟨i, rfl, q⟩
theorem ok_whole (T : Txt K mg) : Good P w K mg base CX0 1 "_law_whole" ["found"] (spWhole K) := by
  refine Good.of T.f__law_whole sc__law_whole (fun vs H Q E h => ?_) (fun f cdv A outer s H vs Q E hr h => ?_)
  · obtain ⟨i, rfl, _⟩ := h
    rfl
  obtain ⟨i, rfl, q⟩ := h
  refine ⟨_, (pss_one (ps_ret (pe_and (pe_callB (kc_isi (K := K) rfl) (by rfl) T.b_isinstance (by decide +kernel) (pa_cons (pv 0) (pa_cons (pe_bltn (v := .ty "int") (by rfl) T.b_int (by decide +kernel) rfl) pa_nil))) (pe_one (pe_not (pe_callB (kc_isi (K := K) rfl) (by rfl) T.b_isinstance (by decide +kernel) (pa_cons (pv 0) (pa_cons (pe_bltn (v := .ty "bool") (by rfl) T.b_bool (by decide +kernel) rfl) pa_nil)))))))), ?_⟩
  exact s_ret (ev_andV (a := true) (b := true) (ev_isi (T := "int") (ev_var rfl) (fun H1 e => .base (.int i)) (by decide +kernel)) fun _ => ev_notV (a := false) (ev_isi (T := "int") (ev_var rfl) (fun H1 e => .base (.int i)) (by decide +kernel))) q

/-! ### _law_marks_by -/
/-- a tuple of marks and lies, all new -/
def MarksAt (H H' : Hp) (t mm : Addr) (L : Nat) (m : List Int) : Prop :=
  Ex H H' ∧ H t = none ∧ H mm = none ∧ H' t = some (.tup [.ref mm, .int (L : Int)]) ∧ H' mm = some (.lst (m.map V.int)) ∧ MOk L m ∧ 1 ≤ m.length
def spMarksBy (K : PySem.W.Frag) : Sp := fun vs H Q _ => ∃ (a b : Addr) (ns sz : List Int), vs = [.ref a, .ref b] ∧ SqL K H a (ns.map V.int) ∧ SqL K H b (sz.map V.int) ∧ sz.length = 3 ∧ (∀ x ∈ sz, 1 ≤ x ∧ x ≤ 8) ∧
  ∀ (H' : Hp) (t mm : Addr) (L : Nat) (m : List Int), MarksAt H H' t mm L m → (L : Int) = cl ns 0 % 3 → (m.length : Int) ≤ sz.getD L 0 → Q (.ref t) H'
theorem ok_marksby (T : Txt K mg) : Good P w K mg base CX0 2 "_law_marks_by" ["script", "sizes"] (spMarksBy K) := by
  have g__law_cell_at := ok_cell (P := P) (w := w) (base := base) T
  refine Good.of T.f__law_marks_by sc__law_marks_by (fun vs H Q E h => ?_) (fun f cdv A outer s H vs Q E hr h => ?_)
  · obtain ⟨a, b, ns, sz, rfl, _⟩ := h
    rfl
  obtain ⟨a, b, ns, sz, rfl, ha, hb, h3, hz, q⟩ := h
  obtain ⟨L, hL⟩ : ∃ L : Nat, (L : Int) = cl ns 0 % 3 := ⟨(cl ns 0 % 3).toNat, by omega⟩
  have hsz : 1 ≤ sz.getD L 0 ∧ sz.getD L 0 ≤ 8 := by
    have hlt : L < sz.length := by omega
    rw [List.getD_eq_getElem?_getD, List.getElem?_eq_getElem hlt]
    exact hz _ (List.getElem_mem hlt)
  obtain ⟨n, hn⟩ : ∃ n : Nat, (n : Int) = 1 + cl ns 1 % sz.getD L 0 := ⟨(1 + cl ns 1 % sz.getD L 0).toNat, by
    have := Int.emod_nonneg (cl ns 1) (b := sz.getD L 0) (by omega)
    omega⟩
  have hn8 : 1 ≤ n ∧ (n : Int) ≤ sz.getD L 0 := by
    have := Int.emod_nonneg (cl ns 1) (b := sz.getD L 0) (by omega)
    have := Int.emod_lt_of_pos (cl ns 1) (b := sz.getD L 0) (by omega)
    omega
  refine ⟨_, (pss_cons (ps_set (i := 2) sc__law_marks_by.nd rfl (Or.inr rfl) (pe_op op_mod (cg g__law_cell_at (hr.mono (by first | decide | omega)) (pa_cons (pv 0) (pa_cons pe_int pa_nil))) pe_int))
      (pss_cons (ps_set (i := 3) sc__law_marks_by.nd rfl (Or.inl rfl) (pe_op op_add pe_int (pe_op op_mod (cg g__law_cell_at (hr.mono (by first | decide | omega)) (pa_cons (pv 0) (pa_cons pe_int pa_nil))) (pe_ix (kix_list (K := K) rfl) (pv 1) (pv 2) (fun _ _ => rfl)))))
      (pss_cons (ps_setLc (i := 4) (own := [("thing", 5)]) (by rfl) sc__law_marks_by.nd rfl rfl (sw_true rfl rfl rfl (by decide +kernel)) (pi_range1 (by rfl) T.b_range (pa_cons (pv 3) pa_nil)) (blkOk_by (own := [("thing", 5)]) (N := n__law_marks_by) (sc := defScope s__law_marks_by) (by decide +kernel)) (fun _ _ _ _ _ => (pg_name (i := 5) sc__law_marks_by.nd rfl (Or.inl rfl))) (fun _ _ _ _ _ => pts_nil) (fun _ _ _ _ _ => pe_int))
      (pss_cons (ps_if (pt_cmpR op_gt (pe_op op_mod (cg g__law_cell_at (hr.mono (by first | decide | omega)) (pa_cons (pv 0) (pa_cons pe_int pa_nil))) pe_int) pe_int (nomark _)) (pss_one (ps_setLc (i := 4) (own := [("thing", 5)]) (by rfl) sc__law_marks_by.nd rfl rfl (sw_true rfl rfl rfl (by decide +kernel)) (pi_range1 (by rfl) T.b_range (pa_cons (pv 3) pa_nil)) (blkOk_by (own := [("thing", 5)]) (N := n__law_marks_by) (sc := defScope s__law_marks_by) (by decide +kernel)) (fun _ _ _ _ _ => (pg_name (i := 5) sc__law_marks_by.nd rfl (Or.inl rfl))) (fun _ _ _ _ _ => pts_nil) (fun _ _ _ _ _ => (pe_op op_mod (cg g__law_cell_at (hr.mono (by first | decide | omega)) (pa_cons (pv 0) (pa_cons (pe_op op_add pe_int (pv 5)) pa_nil))) (pe_op op_add (pv 2) pe_int))))) pss_nil)
      (pss_one (ps_ret (pe_tup (pa_cons (pv 4) (pa_cons (pv 2) pa_nil))))))))), ?_⟩
  refine q_asg (v := .int (L : Int)) (ev_is (ev_op (ev_call (ea_cons (ev_var rfl) (ea_cons ev_c ea_nil)) (v_cell ha (by omega))) ev_c (rv_I (by show (0 : Int) < 3; decide))) (by rw [hL])) fun H1 e1 => ?_
  refine q_asg (v := .int (n : Int)) (ev_is (ev_op ev_c (ev_op (ev_call (ea_cons (ev_var rfl) (ea_cons ev_c ea_nil)) (v_cell (ex_l e1 ha) (by omega))) (ev_op (ev_var rfl) (ev_var rfl) (rv_ixL (ex_l e1 hb) (at_int (by omega)))) (rv_I (by show (0 : Int) < _; omega))) rv_I0) (by rw [hn])) fun H2 e2 => ?_
  have e2 := e1.trans e2
  refine q_asgL (el_cI (fun _ => 0) (ea_cons (ev_var rfl) ea_nil) (by omega) (fun _ => rfl) (fun i H1 _ _ => ev_c)) fun p H3 np e3 hp => ?_
  have e3 := e2.trans e3
  have np : H p = none := fresh_back e2 np
  rw [Int.toNat_natCast] at hp
  have fin : ∀ (H4 : Hp) (pm : Addr) (m : List Int), Ex H H4 → H pm = none → H4 pm = some (.lst (m.map V.int)) → m.length = n → Mks L m → tRet (tTup (tCons (tVar 4) (tCons (tVar 2) tNil))) { nx := fun _ H' => Q .non H', rt := Q } [some (.ref a), some (.ref b), some (.int (L : Int)), some (.int (n : Int)), some (.ref pm), none] H4 := fun H4 pm m e4 n4 h4 hl hm => by
    refine s_retU (eu_tup (ea_cons (ev_var rfl) (ea_cons (ev_var rfl) ea_nil)) (by show 2 ≤ 100000; decide)) fun t H5 nt e5 ht => ?_
    exact q H5 t pm L m ⟨e4.trans e5, fresh_back e4 nt, n4, ht, e5 pm _ h4, ⟨by omega, by omega, hm⟩, by omega⟩ hL (by omega)
  refine q_when (b := decide (0 < cl ns 2 % 3)) (et_test (ev_op (ev_op (ev_call (ea_cons (ev_var rfl) (ea_cons ev_c ea_nil)) (v_cell (ex_l e3 ha) (by omega))) ev_c (rv_I (by show (0 : Int) < 3; decide))) ev_c rv_I0)) (fun _ H4 e4 => ?_) (fun _ H4 e4 => ?_)
  · have e4 := e3.trans e4
    refine s_asgL (el_cI (fun i => cl ns (3 + (i : Int)) % ((L : Int) + 2)) (ea_cons (ev_var rfl) ea_nil) (by omega) (fun _ => rfl) (fun i H5 e5 _ => ev_op (ev_call (ea_cons (ev_var rfl) (ea_cons (ev_op ev_c (ev_var rfl) rv_I0) ea_nil)) (v_cell (ex_l (e4.trans e5) ha) (by omega))) (ev_op (ev_var rfl) ev_c rv_I0) (rv_I (by show (0 : Int) < _; omega)))) fun pm H5 npm e5 hpm => ?_
    rw [Int.toNat_natCast] at hpm
    refine fin H5 pm _ (e4.trans e5) (fresh_back e4 npm) hpm (by simp) fun x hx => ?_
    obtain ⟨i, _, rfl⟩ := List.mem_map.mp hx
    have := Int.emod_nonneg (cl ns (3 + (i : Int))) (b := (L : Int) + 2) (by omega)
    have := Int.emod_lt_of_pos (cl ns (3 + (i : Int))) (b := (L : Int) + 2) (by omega)
    omega
  · refine fin H4 p _ (e3.trans e4) np (e4 p _ hp) (by simp) fun x hx => ?_
    obtain ⟨i, _, rfl⟩ := List.mem_map.mp hx
    omega

/-! ### _law_asked_by -/
def spAskedBy (K : PySem.W.Frag) : Sp := fun vs H Q _ => ∃ (c : Int) (n : Nat), vs = [.int c, .int (n : Int)] ∧ n ≤ 1000 ∧ RetL ((askL c n).map V.int) H Q
theorem l_askedby {H : Hp} {c : Int} {n : Nat} (hn : n ≤ 1000) : SpL (spAskedBy K) [.int c, .int (n : Int)] H ((askL c n).map V.int) := fun H1 e Q q E => ⟨c, n, rfl, hn, q⟩
theorem askL_len (c : Int) (n : Nat) : (askL c n).length ≤ n := by
  unfold askL
  rw [List.length_map]
  have h := List.length_filter_le (fun i => decide (c / 2 ^ i % 2 = 1)) (List.range n)
  rw [List.length_range] at h
  exact h
theorem ok_askedby (T : Txt K mg) : Good P w K mg base CX0 1 "_law_asked_by" ["cell", "things"] (spAskedBy K) := by
  refine Good.of T.f__law_asked_by sc__law_asked_by (fun vs H Q E h => ?_) (fun f cdv A outer s H vs Q E hr h => ?_)
  · obtain ⟨c, n, rfl, _⟩ := h
    rfl
  obtain ⟨c, n, rfl, hn, q⟩ := h
  refine ⟨_, (pss_cons (ps_set (i := 2) sc__law_asked_by.nd rfl (Or.inl rfl) (pe_lst pa_nil))
      (pss_cons (ps_for PassesOwn.never rfl (pi_range1 (by rfl) T.b_range (pa_cons (pv 1) pa_nil)) (pg_name (i := 3) sc__law_asked_by.nd rfl (Or.inl rfl)) (pss_cons (ps_if (pt_cmpR op_eq (pe_op op_mod (pv 0) pe_int) pe_int (nomark _)) (pss_one (ps_expr (kpe_bm (K := K) rfl (pe_bm PySem.F.plainAttrs_list PySem.F.slot_list_append PySem.F.type_list_append mt_append (pv 2) (pa_cons (pv 3) pa_nil))))) pss_nil)
      (pss_one (ps_set (i := 0) sc__law_asked_by.nd rfl (Or.inl rfl) (pe_op op_fdiv (pv 0) pe_int)))))
      (pss_one (ps_ret (pv 2))))), ?_⟩
  refine q_asgL (xs := []) (el_lst ea_nil (Nat.zero_le _)) fun o H1 no e1 h1 => ?_
  refine q_forR1 (n := (n : Int)) (ea_cons (ev_var rfl) ea_nil) (by omega)
    (fun i σ' H' => ∃ x3, σ' = [some (.int (c / 2 ^ i)), some (.int (n : Int)), some (.ref o), x3] ∧ Ex H H' ∧ H' o = some (.lst ((askL c i).map V.int)))
    (fun H2 e2 => ⟨none, by rw [Int.pow_zero, Int.ediv_one]; rfl, e1.trans e2, e2 o _ h1⟩) (fun i σ' H' hi p => ?_) (fun σ' H' p => ?_)
  · obtain ⟨x3, rfl, e, ho⟩ := p
    have nxt : ∀ H2, Ex H H2 → H2 o = some (.lst ((askL c (i + 1)).map V.int)) → tAsg (tOp (rI CDiv fun i j => .int (i / j)) (tVar 0) (tC (.int 2))) (gName 0)
        { nx := fun σ' H' => ∃ x3, σ' = [some (.int (c / 2 ^ (i + 1))), some (.int (n : Int)), some (.ref o), x3] ∧ Ex H H' ∧ H' o = some (.lst ((askL c (i + 1)).map V.int)), rt := Q } [some (.int (c / 2 ^ i)), some (.int (n : Int)), some (.ref o), some (.int (i : Int))] H2 := fun H2 e2 h2 => by
      refine s_asg (v := .int (c / 2 ^ (i + 1))) (ev_is (ev_op (ev_var rfl) ev_c (rv_I ⟨by decide, by decide⟩)) (by rw [ediv_pow])) fun H3 e3 => ⟨_, rfl, e2.trans e3, e3 o _ h2⟩
    refine q_when (b := decide (c / 2 ^ i % 2 = 1)) (et_test (ev_op (ev_op (ev_var rfl) ev_c (rv_I (by show (0 : Int) < 2; decide))) ev_c rv_eqI)) (fun hb H2 e2 => ?_) (fun hb H2 e2 => ?_)
    · refine s_app (e2 o _ ho) (ev_var rfl) (ev_var rfl) (by rw [len_map]; have := askL_len c i; omega) fun H3 e3 => ?_
      refine nxt _ (Ex.mut ((e.trans e2).trans e3) no) ?_
      rw [upd_same, askL_succ, if_pos (of_decide_eq_true hb), List.map_append]
      rfl
    · refine nxt _ (e.trans e2) ?_
      rw [askL_succ, if_neg (of_decide_eq_false hb)]
      exact e2 o _ ho
  · obtain ⟨x3, rfl, e, ho⟩ := p
    rw [Int.toNat_natCast] at ho
    exact s_ret (ev_var rfl) fun H2 e2 => q o H2 no (e.trans e2) (e2 o _ ho)

/-! ### _law_after -/
def spLawAfter (K : PySem.W.Frag) : Sp := fun vs H Q _ => ∃ (a b : Addr) (m q : List Int) (L : Int) (y : Bool), vs = [.ref a, .int L, .ref b, .bl y] ∧ SqL K H a (m.map V.int) ∧ SqL K H b (q.map V.int) ∧ m.length ≤ 1000 ∧ RetL ((afq L m q y).map V.int) H Q
theorem l_lawafter {H : Hp} {a b : Addr} {m q : List Int} {L : Int} {y : Bool} (ha : SqL K H a (m.map V.int)) (hb : SqL K H b (q.map V.int)) (hl : m.length ≤ 1000) : SpL (spLawAfter K) [.ref a, .int L, .ref b, .bl y] H ((afq L m q y).map V.int) :=
  fun H1 e Q q' E => ⟨a, b, m, q, L, y, rfl, ex_l e ha, ex_l e hb, hl, q'⟩
theorem ok_lawafter (T : Txt K mg) : Good P w K mg base CX0 1 "_law_after" ["marks", "lies", "asked", "yes"] (spLawAfter K) := by
  refine Good.of T.f__law_after sc__law_after (fun vs H Q E h => ?_) (fun f cdv A outer s H vs Q E hr h => ?_)
  · obtain ⟨a, b, m, q, L, y, rfl, _⟩ := h
    rfl
  obtain ⟨a, b, m, q, L, y, rfl, ha, hb, hl, k⟩ := h
  refine ⟨_, (pss_cons (ps_set (i := 4) sc__law_after.nd rfl (Or.inl rfl) (pe_lst pa_nil))
      (pss_cons (ps_for PassesOwn.never rfl (pi_range1 (by rfl) T.b_range (pa_cons (pe_callB (kc_len (K := K) rfl) (by rfl) T.b_len (by decide +kernel) (pa_cons (pv 0) pa_nil)) pa_nil)) (pg_name (i := 5) sc__law_after.nd rfl (Or.inl rfl)) (pss_cons (ps_set (i := 6) sc__law_after.nd rfl (Or.inl rfl) (pe_cmpR (kop_in (K := K) rfl) (pv 5) (pv 2) (by rfl)))
      (pss_one (ps_if (PW.pt (pw_or (pt_cmpR op_eq (pv 6) (pv 3) (nomark _)) (pw_or1 (pt_cmpR op_gt (pe_ix (kix_list (K := K) rfl) (pv 0) (pv 5) (fun _ _ => rfl)) (pv 1) (nomark _))))) (pss_one (ps_expr (kpe_bm (K := K) rfl (pe_bm PySem.F.plainAttrs_list PySem.F.slot_list_append PySem.F.type_list_append mt_append (pv 4) (pa_cons (pe_ix (kix_list (K := K) rfl) (pv 0) (pv 5) (fun _ _ => rfl)) pa_nil))))) (pss_one (ps_expr (kpe_bm (K := K) rfl (pe_bm PySem.F.plainAttrs_list PySem.F.slot_list_append PySem.F.type_list_append mt_append (pv 4) (pa_cons (pe_op op_add (pe_ix (kix_list (K := K) rfl) (pv 0) (pv 5) (fun _ _ => rfl)) pe_int) pa_nil)))))))))
      (pss_one (ps_ret (pv 4))))), ?_⟩
  refine q_asgL (xs := []) (el_lst ea_nil (Nat.zero_le _)) fun o H1 no e1 h1 => ?_
  refine q_forR1 (n := ((m.map V.int).length : Int)) (ea_cons (ev_len (ev_var rfl) (ex_l e1 ha)) ea_nil) (by rw [len_map]; omega)
    (fun i σ' H' => ∃ x5 x6, σ' = [some (.ref a), some (.int L), some (.ref b), some (.bl y), some (.ref o), x5, x6] ∧ Ex H H' ∧ H' o = some (.lst (((List.range i).map fun (i : Nat) => stp L (m.getD i 0) (hasI q (i : Int) == y)).map V.int)))
    (fun H2 e2 => ⟨none, none, rfl, e1.trans e2, e2 o _ h1⟩) (fun i σ' H' hi p => ?_) (fun σ' H' p => ?_)
  · obtain ⟨x5, x6, rfl, e, ho⟩ := p
    rw [len_map] at hi
    have hq := rv_isL (ex_l e hb) (x := .int (i : Int)) rfl (flat_int q)
    rw [inV_int] at hq
    refine q_asg (ev_op (ev_var rfl) (ev_var rfl) hq) fun H2 e2 => ?_
    have ia : ∀ H3, Ex H H3 → Ev (tOp (rIxL K) (tVar 0) (tVar 5)) [some (.ref a), some (.int L), some (.ref b), some (.bl y), some (.ref o), some (.int (i : Int)), some (.bl (hasI q (i : Int)))] H3 (.int (m.getD i 0)) := fun H3 e3 => ev_op (ev_var rfl) (ev_var rfl) (rv_ixL (ex_l e3 ha) (at_int (by omega)))
    have fin : ∀ (H3 : Hp) (v : Int), Ex H H3 → stp L (m.getD i 0) (hasI q (i : Int) == y) = v → ∃ x5 x6, ([some (V.ref a), some (V.int L), some (V.ref b), some (V.bl y), some (V.ref o), some (V.int (i : Int)), some (V.bl (hasI q (i : Int)))] : L2.St) = [some (.ref a), some (.int L), some (.ref b), some (.bl y), some (.ref o), x5, x6] ∧ Ex H (upd H3 o (.lst (((List.range i).map fun (i : Nat) => stp L (m.getD i 0) (hasI q (i : Int) == y)).map V.int ++ [.int v]))) ∧
        (upd H3 o (.lst (((List.range i).map fun (i : Nat) => stp L (m.getD i 0) (hasI q (i : Int) == y)).map V.int ++ [.int v]))) o = some (.lst (((List.range (i + 1)).map fun (i : Nat) => stp L (m.getD i 0) (hasI q (i : Int) == y)).map V.int)) := fun H3 v e3 hv => by
      refine ⟨_, _, rfl, Ex.mut e3 no, ?_⟩
      rw [upd_same, List.range_succ, List.map_append, List.map_append, ← hv]
      rfl
    refine s_if (b := (hasI q (i : Int) == y) || decide (L < m.getD i 0)) (et_or (et_test (ev_op (ev_var rfl) (ev_var rfl) rv_eqB)) fun _ => et_test (ev_op (ia H2 (e.trans e2)) (ev_var rfl) rv_I0)) (fun hb H3 e3 => ?_) (fun hb H3 e3 => ?_)
    · have e3' := (e.trans e2).trans e3
      refine s_app (e3 o _ (e2 o _ ho)) (ev_var rfl) (ia H3 e3') (by simp; omega) fun H4 e4 => fin H4 _ (e3'.trans e4) ?_
      unfold stp
      rw [if_pos]
      simpa using hb
    · have e3' := (e.trans e2).trans e3
      refine s_app (e3 o _ (e2 o _ ho)) (ev_var rfl) (ev_op (ia H3 e3') ev_c rv_I0) (by simp; omega) fun H4 e4 => fin H4 _ (e3'.trans e4) ?_
      unfold stp
      rw [if_neg]
      simpa using hb
  · obtain ⟨x5, x6, rfl, e, ho⟩ := p
    rw [len_map, Int.toNat_natCast] at ho
    exact s_ret (ev_var rfl) fun H2 e2 => k o H2 no (e.trans e2) (e2 o _ ho)

/-! ### _law_stands -/
def spLawStands (K : PySem.W.Frag) : Sp := fun vs H Q _ => ∃ (a : Addr) (m : List Int) (L : Int), vs = [.ref a, .int L] ∧ SqL K H a (m.map V.int) ∧ m.length ≤ 1000 ∧ RetL ((stl L m).map V.int) H Q
theorem l_lawstands {H : Hp} {a : Addr} {m : List Int} {L : Int} (ha : SqL K H a (m.map V.int)) (hl : m.length ≤ 1000) : SpL (spLawStands K) [.ref a, .int L] H ((stl L m).map V.int) :=
  fun H1 e Q q E => ⟨a, m, L, rfl, ex_l e ha, hl, q⟩
theorem ok_lawstands (T : Txt K mg) : Good P w K mg base CX0 1 "_law_stands" ["marks", "lies"] (spLawStands K) := by
  refine Good.of T.f__law_stands sc__law_stands (fun vs H Q E h => ?_) (fun f cdv A outer s H vs Q E hr h => ?_)
  · obtain ⟨a, m, L, rfl, _⟩ := h
    rfl
  obtain ⟨a, m, L, rfl, ha, hl, q⟩ := h
  refine ⟨_, (pss_one (ps_ret (pe_lc (own := [("thing", 2)]) (by rfl) sc__law_stands.nd (pi_range1 (by rfl) T.b_range (pa_cons (pe_callB (kc_len (K := K) rfl) (by rfl) T.b_len (by decide +kernel) (pa_cons (pv 0) pa_nil)) pa_nil)) (blkOk_by (own := [("thing", 2)]) (N := n__law_stands) (sc := defScope s__law_stands) (by decide +kernel)) (fun _ _ _ _ _ => (pg_name (i := 2) sc__law_stands.nd rfl (Or.inl rfl))) (fun _ _ _ _ _ => pts_one (pt_cmpR op_le (pe_ix (kix_list (K := K) rfl) (pv 0) (pv 2) (fun _ _ => rfl)) (pv 1) (nomark _))) (fun _ _ _ _ _ => (pv 2))))), ?_⟩
  have e := el_cF (σ := [some (.ref a), some (.int L), none]) (t := tTest (tOp (rI0 fun i j => .bl (decide (i ≤ j))) (tOp (rIxL K) (tVar 0) (tVar 2)) (tVar 1))) (te := tVar 2) (j := 2) (vs := [2]) (fun i => decide (m.getD i 0 ≤ L)) (ea_cons (ev_len (ev_var (i := 0) rfl) ha) ea_nil) (by rw [len_map]; omega) (fun _ => rfl)
    (fun i H1 e1 hi => et_test (ev_op (ev_op (ev_var rfl) (ev_var rfl) (rv_ixL (ex_l e1 ha) (at_int (by rw [len_map] at hi; omega)))) (ev_var rfl) rv_I0)) (fun i H1 e1 hi => ev_var rfl)
  rw [len_map, Int.toNat_natCast] at e
  exact s_retL e q

/-! ### asked_lies, asked_marks, asked_question -/
def spAskedLies (K : PySem.W.Frag) : Sp := fun vs H Q _ => ∃ (L : Nat), vs = [.int (L : Int)] ∧ L ≤ 2 ∧ RetV .non H Q
theorem v_askedlies {H : Hp} {L : Nat} (h : L ≤ 2) : SpV (spAskedLies K) [.int (L : Int)] H .non := fun H1 e Q q E => ⟨L, rfl, h, q⟩
theorem ok_askedlies (T : Txt K mg) : Good P w K mg base CX0 1 "asked_lies" ["lies"] (spAskedLies K) := by
  refine Good.of T.f_asked_lies sc_asked_lies (fun vs H Q E h => ?_) (fun f cdv A outer s H vs Q E hr h => ?_)
  · obtain ⟨i, rfl, _⟩ := h
    rfl
  obtain ⟨L, rfl, h2, q⟩ := h
  refine ⟨_, (pss_one (ps_if (PW.pt (pw_or (pt_cmpR op_lt (pv 0) pe_int (nomark _)) (pw_or1 (pt_cmpR op_gt (pv 0) (pe_glob (v := .int 2) (by rfl) (T.c_MOST_LIES).choose_spec ⟨_, rfl⟩) (nomark _))))) pss_never pss_nil)), ?_⟩
  exact s_when (b := false) (et_or (a := false) (b := false) (et_is (et_test (ev_op (ev_var rfl) ev_c rv_I0)) (decide_eq_false (by omega))) fun _ => et_is (et_test (ev_op (ev_var rfl) ev_c rv_I0)) (decide_eq_false (by omega))) (fun hb => nomatch hb) (fun _ => q)
def spAskedMarks (K : PySem.W.Frag) : Sp := fun vs H Q _ => ∃ (a : Addr) (m : List Int) (L : Nat), vs = [.ref a, .int (L : Int)] ∧ SqL K H a (m.map V.int) ∧ MOk L m ∧ 1 ≤ m.length ∧ RetV .non H Q
theorem v_askedmarks {H : Hp} {a : Addr} {m : List Int} {L : Nat} (ha : SqL K H a (m.map V.int)) (h : MOk L m) (h1 : 1 ≤ m.length) : SpV (spAskedMarks K) [.ref a, .int (L : Int)] H .non := fun H1 e Q q E => ⟨a, m, L, rfl, ex_l e ha, h, h1, q⟩
theorem ok_askedmarks (T : Txt K mg) : Good P w K mg base CX0 2 "asked_marks" ["marks", "lies"] (spAskedMarks K) := by
  have g_asked_lies := ok_askedlies (P := P) (w := w) (base := base) T
  refine Good.of T.f_asked_marks sc_asked_marks (fun vs H Q E h => ?_) (fun f cdv A outer s H vs Q E hr h => ?_)
  · obtain ⟨a, m, L, rfl, _⟩ := h
    rfl
  obtain ⟨a, m, L, rfl, ha, hm, h1, q⟩ := h
  have h8 := hm.len
  refine ⟨_, (pss_cons (ps_expr (cg g_asked_lies (hr.mono (by first | decide | omega)) (pa_cons (pv 1) pa_nil)))
      (pss_cons (ps_if (PW.pt (pw_or (pt_cmpR op_lt (pe_callB (kc_len (K := K) rfl) (by rfl) T.b_len (by decide +kernel) (pa_cons (pv 0) pa_nil)) pe_int (nomark _)) (pw_or1 (pt_cmpR op_gt (pe_callB (kc_len (K := K) rfl) (by rfl) T.b_len (by decide +kernel) (pa_cons (pv 0) pa_nil)) (pe_glob (v := .int 8) (by rfl) (T.c_MOST_THINGS).choose_spec ⟨_, rfl⟩) (nomark _))))) pss_never pss_nil)
      (pss_one (ps_for PassesOwn.never rfl (kpi_list (K := K) rfl (pv 0)) (pg_name (i := 2) sc_asked_marks.nd rfl (Or.inl rfl)) (pss_one (ps_if (PW.pt (pw_or (pt_cmpR op_lt (pv 2) pe_int (nomark _)) (pw_or1 (pt_cmpR op_gt (pv 2) (pe_op op_add (pv 1) pe_int) (nomark _))))) pss_never pss_nil)))))), ?_⟩
  refine q_drop (ev_call (ea_cons (ev_var rfl) ea_nil) (v_askedlies hm.lies)) fun H1 e1 => ?_
  refine q_when (b := false) (et_or (a := false) (b := false) (et_is (et_test (ev_op (ev_len (ev_var rfl) (ex_l e1 ha)) ev_c rv_I0)) (decide_eq_false (by rw [len_map]; omega))) fun _ => et_is (et_test (ev_op (ev_len (ev_var rfl) (ex_l e1 ha)) ev_c rv_I0)) (decide_eq_false (by rw [len_map]; omega))) (fun hb => nomatch hb) (fun _ H2 e2 => ?_)
  have e2 := e1.trans e2
  refine s_forLn (ev_var rfl) (ex_l e2 ha) (fun i σ' H' => ∃ x2, σ' = [some (.ref a), some (.int (L : Int)), x2] ∧ Ex H H') (fun H3 e3 => ⟨_, rfl, e2.trans e3⟩) (fun i σ' H' _ p => by
    obtain ⟨x2, _, e⟩ := p
    exact ex_l e ha) (fun i x σ' H' hx p => ?_) (fun σ' H' p => ?_)
  · obtain ⟨x2, rfl, e⟩ := p
    obtain ⟨y, hy, rfl⟩ := List.mem_map.mp (List.mem_of_getElem? hx)
    have hy2 := hm.mks y hy
    exact s_when (b := false) (et_or (a := false) (b := false) (et_is (et_test (ev_op (ev_var rfl) ev_c rv_I0)) (decide_eq_false (by omega))) fun _ => et_is (et_test (ev_op (ev_var rfl) (ev_op (ev_var rfl) ev_c rv_I0) rv_I0)) (decide_eq_false (by omega))) (fun hb => nomatch hb) (fun _ H4 e4 => ⟨_, rfl, e.trans e4⟩)
  · obtain ⟨x2, rfl, e⟩ := p
    exact q H' e

/-! ### picks, ways_left, weight -/
def spPicks (K : PySem.W.Frag) : Sp := fun vs H Q _ => ∃ (n k : Nat), vs = [.int (n : Int), .int (k : Int)] ∧ n ≤ 1000 ∧ k ≤ 10 ∧ RetV (.int (ch n k : Int)) H Q
theorem v_picks {H : Hp} {n k : Nat} (hn : n ≤ 1000) (hk : k ≤ 10) : SpV (spPicks K) [.int (n : Int), .int (k : Int)] H (.int (ch n k : Int)) := fun H1 e Q q E => ⟨n, k, rfl, hn, hk, q⟩
theorem ok_picks (T : Txt K mg) : Good P w K mg base CX0 1 "picks" ["total", "some"] (spPicks K) := by
  refine Good.of T.f_picks sc_picks (fun vs H Q E h => ?_) (fun f cdv A outer s H vs Q E hr h => ?_)
  · obtain ⟨n, k, rfl, _⟩ := h
    rfl
  obtain ⟨n, k, rfl, hn, hk, q⟩ := h
  refine ⟨_, (pss_cons (ps_set (i := 2) sc_picks.nd rfl (Or.inl rfl) pe_int)
      (pss_cons (ps_for PassesOwn.never rfl (pi_range1 (by rfl) T.b_range (pa_cons (pv 1) pa_nil)) (pg_name (i := 3) sc_picks.nd rfl (Or.inl rfl)) (pss_one (ps_set (i := 2) sc_picks.nd rfl (Or.inl rfl) (pe_op op_fdiv (pe_op op_mul (pv 2) (pe_op op_sub (pv 0) (pv 3))) (pe_op op_add (pv 3) pe_int)))))
      (pss_one (ps_ret (pv 2))))), ?_⟩
  refine q_asg ev_c fun H1 e1 => ?_
  refine q_forR1 (n := (k : Int)) (ea_cons (ev_var rfl) ea_nil) (by omega) (fun i σ' H' => ∃ x3, σ' = [some (.int (n : Int)), some (.int (k : Int)), some (.int (pk (n : Int) i)), x3] ∧ Ex H H') (fun H2 e2 => ⟨_, rfl, e1.trans e2⟩) (fun i σ' H' hi p => ?_) (fun σ' H' p => ?_)
  · obtain ⟨x3, rfl, e⟩ := p
    exact s_asg (ev_op (ev_op (ev_var rfl) (ev_op (ev_var rfl) (ev_var rfl) rv_I0) (rv_I (.inr ⟨by omega, by omega⟩))) (ev_op (ev_var rfl) ev_c rv_I0) (rv_I ⟨by omega, by omega⟩)) fun H2 e2 => ⟨_, rfl, e.trans e2⟩
  · obtain ⟨x3, rfl, e⟩ := p
    rw [Int.toNat_natCast, pk_ch]
    exact s_ret (ev_var rfl) fun H2 e2 => q H2 (e.trans e2)
def spWaysLeft (K : PySem.W.Frag) : Sp := fun vs H Q _ => ∃ (l : Int) (n : Nat), vs = [.int l, .int (n : Int)] ∧ n ≤ 1000 ∧ -1 ≤ l ∧ l ≤ 5 ∧ RetV (.int (wy (l + 1).toNat n : Int)) H Q
theorem v_waysleft {H : Hp} {l : Int} {n : Nat} (hn : n ≤ 1000) (h1 : -1 ≤ l) (h5 : l ≤ 5) : SpV (spWaysLeft K) [.int l, .int (n : Int)] H (.int (wy (l + 1).toNat n : Int)) := fun H1 e Q q E => ⟨l, n, rfl, hn, h1, h5, q⟩
theorem ok_waysleft (T : Txt K mg) : Good P w K mg base CX0 2 "ways_left" ["lies", "many"] (spWaysLeft K) := by
  have g_picks := ok_picks (P := P) (w := w) (base := base) T
  refine Good.of T.f_ways_left sc_ways_left (fun vs H Q E h => ?_) (fun f cdv A outer s H vs Q E hr h => ?_)
  · obtain ⟨l, n, rfl, _⟩ := h
    rfl
  obtain ⟨l, n, rfl, hn, h1, h5, q⟩ := h
  refine ⟨_, (pss_one (ps_ret (pe_callB (kc_sum (K := K) rfl (by rfl)) (by rfl) T.b_sum (by decide +kernel) (pa_cons (pe_lc (own := [("some", 2)]) (by rfl) sc_ways_left.nd (pi_range1 (by rfl) T.b_range (pa_cons (pe_op op_add (pv 0) pe_int) pa_nil)) (blkOk_by (own := [("some", 2)]) (N := n_ways_left) (sc := defScope s_ways_left) (by decide +kernel)) (fun _ _ _ _ _ => (pg_name (i := 2) sc_ways_left.nd rfl (Or.inl rfl))) (fun _ _ _ _ _ => pts_nil) (fun _ _ _ _ _ => (cg g_picks (hr.mono (by first | decide | omega)) (pa_cons (pv 1) (pa_cons (pv 2) pa_nil))))) pa_nil)))), ?_⟩
  refine s_ret (v := .int (wy (l + 1).toNat n : Int)) (ev_is (ev_sumL (el_cI (fun i => (ch n i : Int)) (ea_cons (ev_op (ev_var rfl) ev_c rv_I0) ea_nil) (by omega) (fun _ => rfl) fun i H1 e1 hi => ev_call (ea_cons (ev_var rfl) (ea_cons (ev_var rfl) ea_nil)) (v_picks hn (by omega)))) (by rw [wy_int])) q

/-! ### counted, parts, moved, heavy -/
def spCounted (K : PySem.W.Frag) : Sp := fun vs H Q _ => ∃ (a : Addr) (m : List Int) (L : Nat), vs = [.ref a, .int (L : Int)] ∧ SqL K H a (m.map V.int) ∧ L ≤ 10 ∧ RetU ((ic (cnt L m)).map V.int) H Q
theorem u_counted {H : Hp} {a : Addr} {m : List Int} {L : Nat} (ha : SqL K H a (m.map V.int)) (hL : L ≤ 10) : SpU (spCounted K) [.ref a, .int (L : Int)] H ((ic (cnt L m)).map V.int) := fun H1 e Q q E => ⟨a, m, L, rfl, ex_l e ha, hL, q⟩
theorem ok_counted (T : Txt K mg) : Good P w K mg base CX0 1 "counted" ["marks", "lies"] (spCounted K) := by
  refine Good.of T.f_counted sc_counted (fun vs H Q E h => ?_) (fun f cdv A outer s H vs Q E hr h => ?_)
  · obtain ⟨a, m, L, rfl, _⟩ := h
    rfl
  obtain ⟨a, m, L, rfl, ha, hL, q⟩ := h
  refine ⟨_, (pss_one (ps_ret (pe_callTy (kc_tuple (K := K) rfl) (by rfl) T.b_tuple (by decide +kernel) (pa_cons (pe_lc (own := [("mark", 2)]) (by rfl) sc_counted.nd (pi_range1 (by rfl) T.b_range (pa_cons (pe_op op_add (pv 1) pe_int) pa_nil)) (blkOk_by (own := [("mark", 2)]) (N := n_counted) (sc := defScope s_counted) (by decide +kernel)) (fun _ _ _ _ _ => (pg_name (i := 2) sc_counted.nd rfl (Or.inl rfl))) (fun _ _ _ _ _ => pts_nil) (fun _ _ _ _ _ => (kpe_bm (K := K) rfl (pe_bm PySem.F.plainAttrs_list PySem.F.slot_list_count PySem.F.type_list_count (kmt_count (K := K) rfl) (pv 0) (pa_cons (pv 2) pa_nil))))) pa_nil)))), ?_⟩
  have e := el_cI (σ := [some (.ref a), some (.int (L : Int)), none]) (H := H) (ta := tCons (tOp (rI0 fun i j => .int (i + j)) (tVar 1) (tC (.int 1))) tNil) (te := tBM K "list" (rCntI K) (tVar 0) (tCons (tVar 2) tNil)) (j := 2) (vs := [2]) (fun i => (m.count (i : Int) : Int)) (ea_cons (ev_op (ev_var rfl) ev_c rv_I0) ea_nil) (by omega) (fun _ => rfl) (fun i H1 e1 hi => ev_cnt (ev_var rfl) (ev_var rfl) (ex_l e1 ha))
  have e2 : ((List.range ((L : Int) + 1).toNat).map fun (i : Nat) => (m.count (i : Int) : Int)) = ic (cnt L m) := by
    have e3 : ((L : Int) + 1).toNat = L + 1 := by omega
    rw [e3]
    unfold ic LA.cnt
    rw [List.map_map]
    rfl
  rw [e2] at e
  exact s_retU (eu_tup e) q
def spParts : Sp := fun vs H Q _ => ∃ (c : Addr) (cs : List Nat), vs = [.ref c] ∧ H c = some (.tup ((ic cs).map V.int)) ∧ cs.length ≤ 3 ∧ (∀ x ∈ cs, x ≤ 8) ∧ ∀ D H1 rs, H D = none → Ex H H1 → H1 D = some (.lst (rs.map V.ref)) → TupsAt H1 rs (prt cs) → Q (.ref D) H1
theorem ok_parts (T : Txt K mg) : Good P w K mg base CX0 1 "parts" ["counts"] spParts := by
  refine Good.of T.f_parts sc_parts (fun vs H Q E h => ?_) (fun f cdv A outer s H vs Q E hr h => ?_)
  · obtain ⟨c, cs, rfl, _⟩ := h
    rfl
  obtain ⟨c, cs, rfl, hc, h3, h8, k⟩ := h
  have big : ∀ i, i ≤ cs.length → (prtT cs i).length ≤ 729 := fun i hi => by
    have z := prtT_len h8 i hi
    have : 9 ^ i ≤ 9 ^ 3 := Nat.pow_le_pow_right (by omega) (by omega)
    omega
  refine ⟨_, (pss_cons (ps_set (i := 1) sc_parts.nd rfl (Or.inl rfl) (pe_lst (pa_cons (pe_tup pa_nil) pa_nil)))
      (pss_cons (ps_for PassesOwn.never rfl (kpi_tup (K := K) rfl (pv 0)) (pg_name (i := 2) sc_parts.nd rfl (Or.inl rfl)) (pss_cons (ps_set (i := 3) sc_parts.nd rfl (Or.inl rfl) (pe_lst pa_nil))
      (pss_cons (ps_for PassesOwn.never rfl (kpi_list (K := K) rfl (pv 1)) (pg_name (i := 4) sc_parts.nd rfl (Or.inr rfl)) (pss_one (ps_expr (kpe_bm (K := K) rfl (pe_bm PySem.F.plainAttrs_list PySem.F.slot_list_extend PySem.F.type_list_extend mt_extend (pv 3) (pa_cons (pe_lc (own := [("some", 5)]) (by rfl) sc_parts.nd (pi_range1 (by rfl) T.b_range (pa_cons (pe_op op_add (pv 2) pe_int) pa_nil)) (blkOk_by (own := [("some", 5)]) (N := n_parts) (sc := defScope s_parts) (by decide +kernel)) (fun _ _ _ _ _ => (pg_name (i := 5) sc_parts.nd rfl (Or.inl rfl))) (fun _ _ _ _ _ => pts_nil) (fun _ _ _ _ _ => (pe_op (kop_catA (K := K) rfl) (pv 4) (pe_tup (pa_cons (pv 5) pa_nil))))) pa_nil))))))
      (pss_one (ps_set (i := 1) sc_parts.nd rfl (Or.inl rfl) (pv 3))))))
      (pss_one (ps_ret (pv 1))))), ?_⟩
  -- found = [()]
  refine ⟨Nat.zero_le _, fun t nt => ⟨by show 1 ≤ sizeLine; decide, fun D nD => ?_⟩⟩
  have eD : Ex H (upd (upd H t (.tup [])) D (.lst [.ref t])) := (Ex.new nt).trans (Ex.new nD)
  refine q_forT (ev_var rfl) (st_of (eD _ _ hc)) (fun i σ' H' => ∃ D rs x2 x3 x4 x5, σ' = [some (.ref c), some (.ref D), x2, x3, x4, x5] ∧ Ex H H' ∧ H D = none ∧ H' D = some (.lst (rs.map V.ref)) ∧ TupsAt H' rs (prtT cs i))
    (fun H1 e1 => ⟨D, [t], none, none, none, none, rfl, eD.trans e1, fresh_back (Ex.new nt) nD, e1 _ _ upd_same, .cons (e1 _ _ (Ex.new nD _ _ upd_same)) .nil⟩)
    (fun i σ' H' _ p => by
      obtain ⟨_, _, _, _, _, _, _, e, _⟩ := p
      exact st_of (e _ _ hc)) (fun i x σ' H' hx p => ?_) (fun σ' H' p => ?_)
  · obtain ⟨D, rs, x2, x3, x4, x5, rfl, e, nD, hD, hT⟩ := p
    have hi : i < cs.length := by
      have z := (List.getElem?_eq_some_iff.mp hx).1
      rwa [len_map, ic_len] at z
    obtain ⟨y, hy⟩ : ∃ y, cs[i]? = some y := ⟨_, List.getElem?_eq_getElem hi⟩
    have hx2 : x = V.int (y : Int) := by
      unfold ic at hx
      rw [List.getElem?_map, List.getElem?_map, hy] at hx
      exact (Option.some.inj hx).symm
    subst hx2
    have hy8 := h8 y (List.mem_of_getElem? hy)
    -- longer = []
    refine q_asgL (xs := []) (el_lst ea_nil (Nat.zero_le _)) fun G H1 nG e1 hG => ?_
    have nG0 := fresh_back e nG
    have hD1 := e1 _ _ hD
    have hT1 := hT.ex e1
    refine q_forLn (ev_var rfl) (sq_of hD1) (fun j σ' H2 => ∃ ss x4 x5, σ' = [some (.ref c), some (.ref D), some (.int (y : Int)), some (.ref G), x4, x5] ∧ H2 D = some (.lst (rs.map V.ref)) ∧ TupsAt H2 rs (prtT cs i) ∧ H2 G = some (.lst (ss.map V.ref)) ∧ TupsAt H2 ss (prt1 ((prtT cs i).take j) y) ∧ Ex H H2)
      (fun H2 e2 => ⟨[], _, _, rfl, e2 _ _ hD1, hT1.ex e2, e2 _ _ hG, .nil, (e.trans e1).trans e2⟩) (fun j σ' H2 _ p => by
        obtain ⟨_, _, _, _, h, _⟩ := p
        exact sq_of h) (fun j x σ' H2 hx p => ?_) (fun σ' H2 p => ?_)
    · obtain ⟨ss, x4, x5, rfl, hD2, hT2, hG2, hS2, e2⟩ := p
      rw [List.getElem?_map] at hx
      cases hr' : rs[j]? with
      | none =>
        rw [hr'] at hx
        cases hx
      | some r =>
        rw [hr'] at hx
        obtain rfl : V.ref r = x := Option.some.inj hx
        obtain ⟨u, hu, hru⟩ := hT2.get hr'
        have ul : u.length = i := prtT_mem i (by omega) u (List.mem_of_getElem? hu)
        have hj : j < (prtT cs i).length := (List.getElem?_eq_some_iff.mp hu).1
        have b1 := big i (by omega)
        have b2 := big (i + 1) (by omega)
        have ssl : ss.length = j * (y + 1) := by rw [hS2.len, prt1_len, List.length_take, Nat.min_eq_left (by omega)]
        have ssl2 : j * (y + 1) ≤ 729 * 9 := Nat.mul_le_mul (by omega) (by omega)
        have nGr : ∀ (b : Addr) (w' : List Nat), H2 b = some (.tup ((ic w').map V.int)) → b ≠ G := fun b w' hb z => by
          rw [z, hG2] at hb
          cases hb
        refine ⟨.ref G, rfl, .inl ⟨rfl, _, sq_of hG2⟩, ?_⟩
        refine part_lc (c := y) (i := 4) (r := r) (u := u) (ea_cons (ev_op (ev_var rfl) ev_c rv_I0) ea_nil) (by omega) (by omega) hru (fun _ => rfl) (fun _ => rfl) (fun _ => rfl) fun D2 H3 ts nD2 e3 hD3 hT3 => ?_
        have tsl : ts.length = y + 1 := by rw [hT3.len, List.length_map, List.length_range]
        have hG3 := e3 _ _ hG2
        have g3 : ∀ (rs : List Addr) (us : List (List Nat)), TupsAt H3 rs us → TupsAt (upd H3 G (.lst (ss.map V.ref ++ ts.map V.ref))) rs us := fun rs us h => by
          have z := (h.ne hG3).ex (ex_hid (upd H3 G (.lst (ss.map V.ref ++ ts.map V.ref))) G |> fun q => (by rw [hid_upd] at q; exact q))
          exact z
        refine ⟨G, D2, _, _, rfl, rfl, hG3, hD3, ?_, ?_⟩
        · rw [len_map, len_map, ssl, tsl]
          exact sz_of (by omega)
        · refine ⟨ss ++ ts, _, _, rfl, ?_, g3 _ _ (hT2.ex e3), ?_, ?_, Ex.mut (e2.trans e3) nG0⟩
          · refine upd_other (e3 _ _ hD2) fun z => ?_
            rw [z, nG] at hD
            cases hD
          · rw [upd_same, List.map_append]
          · rw [List.take_add_one, hu, Option.toList_some, prt1_app, prt1_one]
            exact g3 _ _ ((hS2.ex e3).app hT3)
    · obtain ⟨ss, x4, x5, rfl, hD2, hT2, hG2, hS2, e2⟩ := p
      rw [len_map, hT.len, List.take_of_length_le (Nat.le_refl _), ← prtT_succ hy] at hS2
      exact s_asg (ev_var rfl) fun H3 e3 => ⟨G, ss, _, _, _, _, rfl, e2.trans e3, nG0, e3 _ _ hG2, hS2.ex e3⟩
  · obtain ⟨D, rs, x2, x3, x4, x5, rfl, e, nD, hD, hT⟩ := p
    rw [len_map, ic_len, prtT_all] at hT
    exact s_ret (ev_var rfl) fun H2 e2 => k D H2 rs nD (e.trans e2) (e2 _ _ hD) (hT.ex e2)

/-! ### moved, heavy -/
def spMoved : Sp := fun vs H Q _ => ∃ (c s : Addr) (cs st : List Nat), vs = [.ref c, .ref s] ∧ H c = some (.tup ((ic cs).map V.int)) ∧ H s = some (.tup ((ic st).map V.int)) ∧ Tk st cs ∧ 1 ≤ cs.length ∧ cs.length ≤ 1000 ∧ RetU ((ic (mvd cs st)).map V.int) H Q
theorem u_moved {H : Hp} {c s : Addr} {cs st : List Nat} (hc : H c = some (.tup ((ic cs).map V.int))) (hs : H s = some (.tup ((ic st).map V.int))) (ht : Tk st cs) (h1 : 1 ≤ cs.length) (h2 : cs.length ≤ 1000) : SpU spMoved [.ref c, .ref s] H ((ic (mvd cs st)).map V.int) := fun H1 e Q q E => ⟨c, s, cs, st, rfl, e _ _ hc, e _ _ hs, ht, h1, h2, q⟩
theorem ok_moved (T : Txt K mg) : Good P w K mg base CX0 1 "moved" ["counts", "stay"] spMoved := by
  refine Good.of T.f_moved sc_moved (fun vs H Q E h => ?_) (fun f cdv A outer s H vs Q E hr h => ?_)
  · obtain ⟨c, s, cs, st, rfl, _⟩ := h
    rfl
  obtain ⟨c, sa, cs, st, rfl, hc, hs, ht, h1, h2, q⟩ := h
  have hl := ht.len
  refine ⟨_, (pss_cons (ps_set (i := 2) sc_moved.nd rfl (Or.inl rfl) (pe_lst (pa_cons (pe_ix (kix_tup (K := K) rfl) (pv 1) pe_int (fun _ _ => rfl)) pa_nil)))
      (pss_cons (ps_for PassesOwn.never rfl (pi_range2 (by rfl) T.b_range (pa_cons pe_int (pa_cons (pe_callB (kc_len (K := K) rfl) (by rfl) T.b_len (by decide +kernel) (pa_cons (pv 0) pa_nil)) pa_nil))) (pg_name (i := 3) sc_moved.nd rfl (Or.inl rfl)) (pss_one (ps_expr (kpe_bm (K := K) rfl (pe_bm PySem.F.plainAttrs_list PySem.F.slot_list_append PySem.F.type_list_append mt_append (pv 2) (pa_cons (pe_op op_sub (pe_op op_add (pe_ix (kix_tup (K := K) rfl) (pv 1) (pv 3) (fun _ _ => rfl)) (pe_ix (kix_tup (K := K) rfl) (pv 0) (pe_op op_sub (pv 3) pe_int) (fun _ _ => rfl))) (pe_ix (kix_tup (K := K) rfl) (pv 1) (pe_op op_sub (pv 3) pe_int) (fun _ _ => rfl))) pa_nil))))))
      (pss_one (ps_ret (pe_callTy (kc_tuple (K := K) rfl) (by rfl) T.b_tuple (by decide +kernel) (pa_cons (pv 2) pa_nil)))))), ?_⟩
  have at0 : atI ((ic st).map V.int) 0 = some (.int ((ic st).getD 0 0)) := at_int (i := 0) (by rw [ic_len]; omega)
  refine q_asgL (el_lst (ea_cons (ev_op (ev_var rfl) ev_c (rv_ixT (st_of hs) at0)) ea_nil) (by show 1 ≤ 100000; decide)) fun o H1 no e1 ho => ?_
  have ml := mvd_len (st := st) h1
  refine q_forR2 (lo := 1) (n := ((ic cs).map V.int).length) (ea_cons ev_c (ea_cons (ev_lenT (ev_var rfl) (st_of (e1 _ _ hc))) ea_nil)) (by rw [len_map, ic_len]; omega) (fun i σ' H' => ∃ x3, σ' = [some (.ref c), some (.ref sa), some (.ref o), x3] ∧ Ex H H' ∧ H' o = some (.lst ((ic ((mvd cs st).take (i + 1))).map V.int)))
    (fun H2 e2 => ⟨none, rfl, e1.trans e2, by
      rw [e2 _ _ ho, ic_get (by omega)]
      rfl⟩) (fun i σ' H' hi p => ?_) (fun σ' H' p => ?_)
  · obtain ⟨x3, rfl, e, ho⟩ := p
    rw [len_map, ic_len] at hi
    have hi2 : i + 1 < cs.length := by omega
    have k1 : (1 : Int) + (i : Int) = ((i + 1 : Nat) : Int) := by omega
    have k2 : (1 : Int) + (i : Int) - 1 = (i : Int) := by omega
    have s1 : atI ((ic st).map V.int) (1 + (i : Int)) = some (.int ((ic st).getD (i + 1) 0)) := by
      rw [k1]
      exact at_int (by rw [ic_len]; omega)
    have c0 : atI ((ic cs).map V.int) (1 + (i : Int) - 1) = some (.int ((ic cs).getD i 0)) := by
      rw [k2]
      exact at_int (by rw [ic_len]; omega)
    have s0 : atI ((ic st).map V.int) (1 + (i : Int) - 1) = some (.int ((ic st).getD i 0)) := by
      rw [k2]
      exact at_int (by rw [ic_len]; omega)
    refine s_app ho (ev_var rfl) (ev_op (ev_op (ev_op (ev_var rfl) (ev_var rfl) (rv_ixT (st_of (e _ _ hs)) s1)) (ev_op (ev_var rfl) (ev_op (ev_var rfl) ev_c rv_I0) (rv_ixT (st_of (e _ _ hc)) c0)) rv_I0) (ev_op (ev_var rfl) (ev_op (ev_var rfl) ev_c rv_I0) (rv_ixT (st_of (e _ _ hs)) s0)) rv_I0) (by rw [len_map, ic_len, List.length_take]; omega) fun H2 e2 => ?_
    refine ⟨_, rfl, Ex.mut (e.trans e2) no, ?_⟩
    have g : (mvd cs st)[i + 1]? = some (st.getD (i + 1) 0 + cs.getD i 0 - st.getD i 0) := by
      have z := mvd_get (st := st) hi2
      rw [List.getD_eq_getElem?_getD, List.getElem?_eq_getElem (by omega)] at z
      rw [List.getElem?_eq_getElem (by omega)]
      exact congrArg some z
    have tk := ht.get i
    rw [upd_same, List.take_add_one (l := mvd cs st) (i := i + 1), g, Option.toList_some, ic_app, List.map_append, ic_get (by omega), ic_get (by omega), ic_get (by omega)]
    have e3 : ((st.getD (i + 1) 0 : Nat) : Int) + ((cs.getD i 0 : Nat) : Int) - ((st.getD i 0 : Nat) : Int) = ((st.getD (i + 1) 0 + cs.getD i 0 - st.getD i 0 : Nat) : Int) := by omega
    rw [e3]
    rfl
  · obtain ⟨x3, rfl, e, ho⟩ := p
    have e4 : (((ic cs).map V.int).length - 1 : Int).toNat + 1 = cs.length := by
      rw [len_map, ic_len]
      omega
    rw [e4, List.take_of_length_le (by omega)] at ho
    exact s_retU (eu_tupV (el_var rfl ho)) fun p H2 np e2 hp => q p H2 (fresh_back e np) (e.trans e2) hp
def spHeavy : Sp := fun vs H Q _ => ∃ (c : Addr) (cs : List Nat) (q : Nat), vs = [.ref c, .int (q : Int)] ∧ H c = some (.tup ((ic cs).map V.int)) ∧ 1 ≤ cs.length ∧ cs.length ≤ 3 ∧ cs.sum ≤ 8 ∧ q ≤ 100 ∧ RetV (.bl (heavy cs q)) H Q
theorem v_heavy {H : Hp} {c : Addr} {cs : List Nat} {q : Nat} (hc : H c = some (.tup ((ic cs).map V.int))) (h1 : 1 ≤ cs.length) (h3 : cs.length ≤ 3) (h8 : cs.sum ≤ 8) (hq : q ≤ 100) : SpV spHeavy [.ref c, .int (q : Int)] H (.bl (heavy cs q)) := fun H1 e Q k E => ⟨c, cs, q, rfl, e _ _ hc, h1, h3, h8, hq, k⟩
theorem ok_heavy (T : Txt K mg) : Good P w K mg base CX0 3 "heavy" ["counts", "many"] spHeavy := by
  have g_ways_left := ok_waysleft (P := P) (w := w) (base := base) T
  refine Good.of T.f_heavy sc_heavy (fun vs H Q E h => ?_) (fun f cdv A outer s H vs Q E hr h => ?_)
  · obtain ⟨c, cs, q, rfl, _⟩ := h
    rfl
  obtain ⟨c, cs, n, rfl, hc, h1, h3, h8, hn, q⟩ := h
  refine ⟨_, (pss_cons (ps_set (i := 2) sc_heavy.nd rfl (Or.inl rfl) pe_int)
      (pss_cons (ps_for PassesOwn.never rfl (pi_range1 (by rfl) T.b_range (pa_cons (pv 1) pa_nil)) (pg_name (i := 3) sc_heavy.nd rfl (Or.inl rfl)) (pss_one (ps_set (i := 2) sc_heavy.nd rfl (Or.inl rfl) (pe_op op_mul pe_int (pv 2)))))
      (pss_cons (ps_set (i := 4) sc_heavy.nd rfl (Or.inr rfl) (pe_op op_sub (pe_callB (kc_len (K := K) rfl) (by rfl) T.b_len (by decide +kernel) (pa_cons (pv 0) pa_nil)) pe_int))
      (pss_one (ps_ret (pe_cmpR op_gt (pe_callB (kc_sum (K := K) rfl (by rfl)) (by rfl) T.b_sum (by decide +kernel) (pa_cons (pe_lc (own := [("mark", 5)]) (by rfl) sc_heavy.nd (pi_range1 (by rfl) T.b_range (pa_cons (pe_op op_add (pv 4) pe_int) pa_nil)) (blkOk_by (own := [("mark", 5)]) (N := n_heavy) (sc := defScope s_heavy) (by decide +kernel)) (fun _ _ _ _ _ => (pg_name (i := 5) sc_heavy.nd rfl (Or.inl rfl))) (fun _ _ _ _ _ => pts_nil) (fun _ _ _ _ _ => (pe_op op_mul (pe_ix (kix_tup (K := K) rfl) (pv 0) (pv 5) (fun _ _ => rfl)) (cg g_ways_left (hr.mono (by first | decide | omega)) (pa_cons (pe_op op_sub (pv 4) (pv 5)) (pa_cons (pv 1) pa_nil)))))) pa_nil)) (pv 2) (nomark _))))))), ?_⟩
  refine q_asg ev_c fun H1 e1 => ?_
  refine q_forR1 (n := (n : Int)) (ea_cons (ev_var rfl) ea_nil) (by omega) (fun i σ' H' => ∃ x3, σ' = [some (.ref c), some (.int (n : Int)), some (.int ((2 ^ i : Nat) : Int)), x3, none, none] ∧ Ex H H') (fun H2 e2 => ⟨none, rfl, e1.trans e2⟩) (fun i σ' H' hi p => ?_) (fun σ' H' p => ?_)
  · obtain ⟨x3, rfl, e⟩ := p
    exact s_asg (v := .int ((2 ^ (i + 1) : Nat) : Int)) (ev_is (ev_op ev_c (ev_var rfl) (rv_I (.inl ⟨by decide, by decide⟩))) (by rw [Nat.pow_succ]; congr 1; omega)) fun H2 e2 => ⟨_, rfl, e.trans e2⟩
  · obtain ⟨x3, rfl, e⟩ := p
    rw [Int.toNat_natCast]
    refine q_asg (v := .int ((cs.length : Int) - 1)) (ev_is (ev_op (ev_lenT (ev_var rfl) (st_of (e _ _ hc))) ev_c rv_I0) (by rw [len_map, ic_len])) fun H2 e2 => ?_
    have e2 := e.trans e2
    have en : ((cs.length : Int) - 1 + 1).toNat = cs.length := by omega
    refine s_ret (v := .bl (heavy cs n)) (ev_is (ev_op (ev_sumL (el_cI (fun k => ((cs.getD k 0 * wy (cs.length - k) n : Nat) : Int)) (ea_cons (ev_op (ev_var rfl) ev_c rv_I0) ea_nil) (by omega) (fun _ => rfl) fun k H3 e3 hk => ?_)) (ev_var rfl) rv_I0) ?_) fun H3 e3 => q H3 (e2.trans e3)
    · have hk2 : k < cs.length := by omega
      have w1 := v_waysleft (K := K) (H := H3) (l := (cs.length : Int) - 1 - (k : Int)) (n := n) (by omega) (by omega) (by omega)
      have w2 : ((cs.length : Int) - 1 - (k : Int) + 1).toNat = cs.length - k := by omega
      rw [w2] at w1
      have c8 : cs.getD k 0 ≤ 8 := by
        rw [List.getD_eq_getElem?_getD, List.getElem?_eq_getElem hk2]
        have := le_sum (List.getElem_mem hk2)
        show cs[k] ≤ 8
        omega
      refine ev_is (ev_op (ev_op (ev_var rfl) (ev_var rfl) (rv_ixT (st_of ((e2.trans e3) _ _ hc)) (at_int (by rw [ic_len]; exact hk2)))) (ev_call (ea_cons (ev_op (ev_var rfl) (ev_var rfl) rv_I0) (ea_cons (ev_var rfl) ea_nil)) w1) (rv_I (.inl (by rw [ic_get hk2]; omega)))) ?_
      rw [ic_get hk2, Int.natCast_mul]
    · rw [en, sum_cast (fun k => cs.getD k 0 * wy (cs.length - k) n)]
      unfold heavy wct
      congr 1
      rw [Bool.eq_iff_iff, decide_eq_true_eq, decide_eq_true_eq]
      omega

/-! ### enough, split -/
def RetN (P : Program) (w : World) (d : Addr) (n : Nat) (v : V) (H : Hp) (Q : VK) : Prop := ∀ H' kvs, Ex (hid H d) (hid H' d) → DN P w H' d kvs → VKv n kvs → Q v H'
def spEnough (P : Program) (w : World) (M : Nat) : Sp := fun vs H Q _ => ∃ (c d : Addr) (cs : List Nat) (q : Nat) (kvs : Kvs), vs = [.ref c, .int (q : Int), .ref d] ∧ H c = some (.tup ((ic cs).map V.int)) ∧ 1 ≤ cs.length ∧ cs.length ≤ 3 ∧ cs.sum ≤ 8 ∧ q ≤ M ∧ q ≤ 24 ∧ DN P w H d kvs ∧ VKv cs.length kvs ∧ RetN P w d cs.length (.bl (En q cs)) H Q
def spSplit (P : Program) (w : World) (M : Nat) : Sp := fun vs H Q _ => ∃ (c d : Addr) (cs : List Nat) (q : Nat) (kvs : Kvs), vs = [.ref c, .int ((q + 1 : Nat) : Int), .ref d] ∧ H c = some (.tup ((ic cs).map V.int)) ∧ 1 ≤ cs.length ∧ cs.length ≤ 3 ∧ cs.sum ≤ 8 ∧ q + 1 ≤ M ∧ q + 1 ≤ 24 ∧ DN P w H d kvs ∧ VKv cs.length kvs ∧
  (spl q cs = none → RetN P w d cs.length .non H Q) ∧ ∀ t r H' kvs', spl q cs = some t → Ex (hid H d) (hid H' d) → DN P w H' d kvs' → VKv cs.length kvs' → H' r = some (.tup ((ic t).map V.int)) → Q (.ref r) H'
theorem no_split {f : Nat} (T : Txt K mg) : Good P w K mg base CX0 f "split" ["counts", "many", "known"] (spSplit P w 0) := by
  obtain ⟨a, fd, F, hm, hb⟩ := T.f_split
  have no : ∀ vs H Q E, ¬ spSplit P w 0 vs H Q E := fun vs H Q E h => by
    obtain ⟨_, _, _, q, _, _, _, _, _, _, h, _⟩ := h
    omega
  exact ⟨a, fd, ⟨fun vs H Q E h => absurd h (no vs H Q E), fun A outer s H args us vs Q E _ _ _ _ h => absurd h (no vs H Q E)⟩, hm, F.kp, hb⟩
theorem enough_of {M : Nat} (T : Txt K mg) (gS : Good P w K mg base CX0 (9 + 2 * M) "split" ["counts", "many", "known"] (spSplit P w M)) : Good P w K mg base CX0 (10 + 2 * M) "enough" ["counts", "many", "known"] (spEnough P w M) := by
  have g_heavy := ok_heavy (P := P) (w := w) (base := base) T
  have g_split := gS
  have e10 : 10 + 2 * M = 9 + 2 * M + 1 := by omega
  rw [e10]
  refine Good.of T.f_enough sc_enough (fun vs H Q E h => ?_) (fun f cdv A outer s H vs Q E hr h => ?_)
  · obtain ⟨c, d, cs, q, kvs, rfl, _⟩ := h
    rfl
  obtain ⟨c, d, cs, q, kvs, rfl, hc, h1, h3, h8, hM, h24, hd, hv, k⟩ := h
  refine ⟨_, (pss_cons (ps_if (pt_cmpR op_le (pe_callB (kc_sumT (K := K) rfl (by rfl)) (by rfl) T.b_sum (by decide +kernel) (pa_cons (pv 0) pa_nil)) pe_int (nomark _)) (pss_one (ps_ret pe_bl)) pss_nil)
      (pss_cons (ps_if (PW.pt (pw_or (pt_cmpR op_eq (pv 1) pe_int (nomark _)) (pw_or1 (pt_val (cg g_heavy (hr.mono (by first | decide | omega)) (pa_cons (pv 0) (pa_cons (pv 1) pa_nil))))))) (pss_one (ps_ret pe_bl)) pss_nil)
      (pss_cons (ps_set (i := 3) sc_enough.nd rfl (Or.inl rfl) (pe_tup (pa_cons (pv 0) (pa_cons (pv 1) pa_nil))))
      (pss_cons (ps_if (pt_cmpR (op_notInN hr.units) (pv 3) (pv 2) (by rfl)) (pss_one (ps_asg (pe_cmpR op_notN (cg g_split (hr.mono (by first | decide | omega)) (pa_cons (pv 0) (pa_cons (pv 1) (pa_cons (pv 2) pa_nil)))) pe_non (nomark _)) (pg_sub (pv 2) (pv 3) (set_nest hr.units)))) pss_nil)
      (pss_one (ps_ret (pe_ix (ix_nest hr.units) (pv 2) (pv 3) (fun _ _ => rfl)))))))), ?_⟩
  refine q_when (b := decide (cs.sum ≤ 1)) (et_is (et_test (ev_op (ev_sumT (ev_var rfl) (st_of hc)) ev_c rv_I0)) (by
    rw [ic_sum, Bool.eq_iff_iff, decide_eq_true_eq, decide_eq_true_eq]
    omega)) (fun hb H1 e1 => ?_) (fun hb H1 e1 => ?_)
  · rw [En_found (of_decide_eq_true hb)] at k
    exact s_ret ev_c fun H2 e2 => k H2 kvs (hid_ex (e1.trans e2) d) (hd.ex (e1.trans e2)) hv
  have hb := of_decide_eq_false hb
  have hc1 := e1 _ _ hc
  have hd1 := hd.ex e1
  refine q_when (b := decide ((q : Int) = 0) || heavy cs q) (et_or (et_test (ev_op (ev_var rfl) ev_c rv_eqI)) fun _ => et_B (ev_call (ea_cons (ev_var rfl) (ea_cons (ev_var rfl) ea_nil)) (v_heavy hc1 h1 h3 h8 (by omega)))) (fun hb2 H2 e2 => ?_) (fun hb2 H2 e2 => ?_)
  · have hz : q = 0 ∨ heavy cs q = true := by
      rcases Bool.or_eq_true_iff.mp hb2 with z | z
      · have z := of_decide_eq_true z
        exact .inl (by omega)
      · exact .inr z
    rw [En_not hb hz] at k
    exact s_ret ev_c fun H3 e3 => k H3 kvs (hid_ex ((e1.trans e2).trans e3) d) (hd.ex ((e1.trans e2).trans e3)) hv
  obtain ⟨z1, z2⟩ := Bool.or_eq_false_iff.mp hb2
  have z1 := of_decide_eq_false z1
  obtain ⟨r, rfl⟩ : ∃ r, q = r + 1 := ⟨q - 1, by omega⟩
  have hEn := En_spl hb z2
  have hc2 := e2 _ _ hc1
  have hd2 := hd1.ex e2
  -- key
  refine q_asgU (eu_tup (ea_cons (ev_var rfl) (ea_cons (ev_var rfl) ea_nil)) (by show 2 ≤ 100000; decide)) fun ka H3 nka e3 hka => ?_
  have e13 := (e1.trans e2).trans e3
  have hc3 := e3 _ _ hc2
  have hd3 := hd2.ex e3
  have hk3 : KeyAt H3 ka (ic cs, ((r + 1 : Nat) : Int)) := ⟨c, hka, hc3⟩
  have fin : ∀ (H4 : Hp) (kvs4 : Kvs), Ex (hid H3 d) (hid H4 d) → DN P w H4 d kvs4 → VKv cs.length kvs4 → lkN kvs4 (ic cs, ((r + 1 : Nat) : Int)) = some (En (r + 1) cs) → tRet (tOp (rGetN P w) (tVar 2) (tVar 3)) { nx := fun _ H' => Q .non H', rt := Q } [some (.ref c), some (.int ((r + 1 : Nat) : Int)), some (.ref d), some (.ref ka)] H4 := fun H4 kvs4 e4 d4 v4 l4 => by
    obtain ⟨φ, hφ⟩ := hd3.at
    refine s_ret (ev_op (ev_var rfl) (ev_var rfl) (rv_getN (key_keep e4 hφ hk3) d4 l4)) fun H5 e5 => k H5 kvs4 (((hid_ex e13 d).trans e4).trans (hid_ex e5 d)) (d4.ex e5) v4
  refine q_when (b := !(lkN kvs (ic cs, ((r + 1 : Nat) : Int))).isSome) (et_test (ev_op (ev_var rfl) (ev_var rfl) (rv_notInN hk3 hd3))) (fun hb3 H4 e4 => ?_) (fun hb3 H4 e4 => ?_)
  · have hn : lkN kvs (ic cs, ((r + 1 : Nat) : Int)) = none := by
      cases z : lkN kvs (ic cs, ((r + 1 : Nat) : Int)) with
      | none => rfl
      | some b =>
        rw [z] at hb3
        cases hb3
    have hc4 := e4 _ _ hc3
    have hd4 := hd3.ex e4
    obtain ⟨φ, hφ⟩ := hd4.at
    have setd : ∀ (H5 : Hp) (kvs5 : Kvs), Ex (hid H4 d) (hid H5 d) → DN P w H5 d kvs5 → VKv cs.length kvs5 → (lkN kvs5 (ic cs, ((r + 1 : Nat) : Int)) = none ∨ lkN kvs5 (ic cs, ((r + 1 : Nat) : Int)) = some (En (r + 1) cs)) → ∀ ob, (∀ H1, Ex (hid H5 d) (hid H1 d) → H1 d = some ob → DN P w H1 d (putN kvs5 (ic cs, ((r + 1 : Nat) : Int)) (En (r + 1) cs))) →
        tRet (tOp (rGetN P w) (tVar 2) (tVar 3)) { nx := fun _ H' => Q .non H', rt := Q } [some (.ref c), some (.int ((r + 1 : Nat) : Int)), some (.ref d), some (.ref ka)] (upd H5 d ob) := fun H5 kvs5 e5 d5 v5 hl5 ob hob => by
      have eu : Ex (hid H5 d) (hid (upd H5 d ob) d) := by
        rw [hid_upd]
        exact Ex.refl _
      rcases hl5 with hl5 | hl5
      · exact fin _ _ (((hid_ex e4 d).trans e5).trans eu) (hob _ eu upd_same) (v5.put hl5 rfl h8 h24) (lk_put hl5)
      · refine fin _ _ (((hid_ex e4 d).trans e5).trans eu) (hob _ eu upd_same) (v5.over hl5) (v5.lk_over hl5)
    refine ⟨_, rfl, _, rfl, _, rfl, c, d, cs, r, kvs, rfl, hc4, h1, h3, h8, hM, h24, hd4, hv, fun hs H5 kvs5 e5 d5 v5 => ?_, fun t ra H5 kvs5 hs e5 d5 v5 hr5 => ?_⟩
    · rw [hs] at hEn
      have hl5 : lkN kvs5 (ic cs, ((r + 1 : Nat) : Int)) = none ∨ lkN kvs5 (ic cs, ((r + 1 : Nat) : Int)) = some (En (r + 1) cs) := by
        cases z : lkN kvs5 (ic cs, ((r + 1 : Nat) : Int)) with
        | none => exact .inl rfl
        | some b => exact .inr (by rw [v5.get z])
      have sd := setd H5 kvs5 e5 d5 v5 hl5
      rw [hEn] at sd
      obtain ⟨φ3, hφ3⟩ := hd3.at
      exact ⟨rfl, _, rfl, _, rfl, d, ka, _, kvs5, false, rfl, rfl, rfl, key_keep ((hid_ex e4 d).trans e5) hφ3 hk3, d5, sz_of (by have := v5.len h3; omega), sd⟩
    · rw [hs] at hEn
      have hl5 : lkN kvs5 (ic cs, ((r + 1 : Nat) : Int)) = none ∨ lkN kvs5 (ic cs, ((r + 1 : Nat) : Int)) = some (En (r + 1) cs) := by
        cases z : lkN kvs5 (ic cs, ((r + 1 : Nat) : Int)) with
        | none => exact .inl rfl
        | some b => exact .inr (by rw [v5.get z])
      have sd := setd H5 kvs5 e5 d5 v5 hl5
      rw [hEn] at sd
      obtain ⟨φ3, hφ3⟩ := hd3.at
      exact ⟨rfl, _, rfl, _, rfl, d, ka, _, kvs5, true, rfl, rfl, rfl, key_keep ((hid_ex e4 d).trans e5) hφ3 hk3, d5, sz_of (by have := v5.len h3; omega), sd⟩
  · cases z : lkN kvs (ic cs, ((r + 1 : Nat) : Int)) with
    | none =>
      rw [z] at hb3
      cases hb3
    | some b =>
      rw [hv.get z] at z
      exact fin H4 kvs (hid_ex e4 d) (hd3.ex e4) hv z
theorem split_of {M : Nat} (T : Txt K mg) (gE : Good P w K mg base CX0 (10 + 2 * M) "enough" ["counts", "many", "known"] (spEnough P w M)) : Good P w K mg base CX0 (9 + 2 * (M + 1)) "split" ["counts", "many", "known"] (spSplit P w (M + 1)) := by
  have g_parts := ok_parts (P := P) (w := w) (base := base) T
  have g_moved := ok_moved (P := P) (w := w) (base := base) T
  have g_enough := gE
  have e11 : 9 + 2 * (M + 1) = 10 + 2 * M + 1 := by omega
  rw [e11]
  refine Good.of T.f_split sc_split (fun vs H Q E h => ?_) (fun f cdv A outer s H vs Q E hr h => ?_)
  · obtain ⟨c, d, cs, q, kvs, rfl, _⟩ := h
    rfl
  obtain ⟨c, d, cs, q, kvs, rfl, hc, h1, h3, h8, hM, h24, hd, hv, kn, ks⟩ := h
  refine ⟨_, (pss_cons (ps_for PassesOwn.never rfl (kpi_list (K := K) rfl (cg g_parts (hr.mono (by first | decide | omega)) (pa_cons (pv 0) pa_nil))) (pg_name (i := 3) sc_split.nd rfl (Or.inl rfl)) (pss_cons (ps_set (i := 4) sc_split.nd rfl (Or.inl rfl) (pe_callTy (kc_tuple (K := K) rfl) (by rfl) T.b_tuple (by decide +kernel) (pa_cons (pe_lc (own := [("count", 5), ("some", 6)]) (by rfl) sc_split.nd (RZ.pi_zipA (by rfl) T.b_zip (pa_cons (pv 0) (pa_cons (pv 3) pa_nil))) (blkOk_by (own := [("count", 5), ("some", 6)]) (N := n_split) (sc := defScope s_split) (by decide +kernel)) (fun _ _ _ _ _ => (kpg_tup (K := K) (n := 2) rfl (by rfl) (pgs_cons (pg_name (i := 5) sc_split.nd rfl (Or.inl rfl)) (pgs_cons (pg_name (i := 6) sc_split.nd rfl (Or.inl rfl)) pgs_nil)))) (fun _ _ _ _ _ => pts_nil) (fun _ _ _ _ _ => (pe_op op_sub (pv 5) (pv 6)))) pa_nil)))
      (pss_one (ps_if (PW.pt (pw_and (pt_val (cg g_enough (hr.mono (by first | decide | omega)) (pa_cons (cg g_moved (hr.mono (by first | decide | omega)) (pa_cons (pv 0) (pa_cons (pv 3) pa_nil))) (pa_cons (pe_op op_sub (pv 1) pe_int) (pa_cons (pv 2) pa_nil))))) (pw_and1 (pt_val (cg g_enough (hr.mono (by first | decide | omega)) (pa_cons (cg g_moved (hr.mono (by first | decide | omega)) (pa_cons (pv 0) (pa_cons (pv 4) pa_nil))) (pa_cons (pe_op op_sub (pv 1) pe_int) (pa_cons (pv 2) pa_nil)))))))) (pss_one (ps_ret (pv 3))) pss_nil))))
      (pss_one (ps_ret pe_non))), ?_⟩
  -- for taken in parts(counts)
  refine ⟨_, rfl, c, cs, rfl, hc, h3, fun x hx => by have := le_sum hx; omega, fun D H1 rs nD e1 hD hT => ⟨D, rfl, ⟨_, sq_of hD⟩, ?_⟩⟩
  obtain ⟨φ, hφ⟩ := hd.at
  have hφ1 := e1 _ _ hφ
  have nDd : D ≠ d := fun z => by
    rw [z, hφ] at nD
    cases nD
  have ncd : c ≠ d := fun z => by
    rw [z, hφ] at hc
    cases hc
  refine for_list (K := K) (a := D) (xs := rs.map V.ref) (fun i σ' H' => ∃ x3 x4 x5 x6 kvs', σ' = [some (.ref c), some (.int ((q + 1 : Nat) : Int)), some (.ref d), x3, x4, x5, x6] ∧ Ex (hid H1 d) (hid H' d) ∧ DN P w H' d kvs' ∧ VKv cs.length kvs' ∧ ((prt cs).take i).find? (fun t => En q (mvd cs t) && En q (mvd cs (lft cs t))) = none)
    ⟨none, none, none, none, kvs, rfl, Ex.refl _, hd.ex e1, hv, rfl⟩ (fun i σ' H' _ p => by
      obtain ⟨_, _, _, _, _, _, e, _⟩ := p
      exact sq_of (keep_at e hD nDd)) (fun i x σ' H' hx p => ?_) (fun σ' H' p => ?_)
  · obtain ⟨x3, x4, x5, x6, kvs', rfl, e, hd', hv', hn⟩ := p
    rw [List.getElem?_map] at hx
    cases hq : rs[i]? with
    | none =>
      rw [hq] at hx
      cases hx
    | some r =>
      rw [hq] at hx
      obtain rfl : V.ref r = x := Option.some.inj hx
      obtain ⟨t, ht, hr1⟩ := (tups_keep e hφ1 hT).get hq
      have tk : Tk t cs := mem_prt.mp (List.mem_of_getElem? ht)
      have hc' := keep_at e (e1 _ _ hc) ncd
      obtain ⟨φ', hφ'⟩ := hd'.at
      -- left
      have zl := el_zip (K := K) (σ := [some (.ref c), some (.int ((q + 1 : Nat) : Int)), some (.ref d), some (.ref r), x4, x5, x6]) (H := H') (ta := tVar 0) (tb := tVar 3) (te := tOp (rI0 fun i j => .int (i - j)) (tVar 5) (tVar 6)) (i := 5) (j := 6) (vs := [5, 6]) (fun x y => x - y) (ev_var rfl) (ev_var rfl) hc' hr1 (by rw [ic_len, ic_len, tk.len]) (by rw [ic_len]; omega) (fun _ _ => rfl) (fun x y G => ev_op (ev_var rfl) (ev_var rfl) rv_I0)
      rw [zip_lft tk] at zl
      refine q_asgU (eu_tup zl) fun la H2 nla e2 hla => ?_
      have hd2 := hd'.ex e2
      have hc2 := e2 _ _ hc'
      have hr2 := e2 _ _ hr1
      have km : ((q + 1 : Nat) : Int) - 1 = (q : Int) := by omega
      -- enough(moved(counts, taken), many - 1, known)
      refine (eu_call (ea_cons (ev_var rfl) (ea_cons (ev_var rfl) ea_nil)) (u_moved hc2 hr2 tk h1 (by omega))) H2 (Ex.refl H2) _ fun m1 H3 nm1 e3 hm1 => ?_
      refine ⟨_, rfl, _, _, rfl, rfl, _, rfl, m1, d, mvd cs t, q, kvs', by (show [V.ref m1, V.int (((q + 1 : Nat) : Int) - 1), V.ref d] = _; rw [km]), hm1, by rw [mvd_len h1]; exact h1, by rw [mvd_len h1]; exact h3, Nat.le_trans (mvd_sum tk h3) h8, by omega, by omega, hd2.ex e3, by rw [mvd_len h1]; exact hv', fun H4 kvs4 e4 hd4 hv4 => ⟨_, rfl, ?_⟩⟩
      rw [mvd_len h1] at hv4
      have e4 : Ex (hid H' d) (hid H4 d) := (hid_ex (e2.trans e3) d).trans e4
      have nxt : ∀ (H6 : Hp) (kvs6 : Kvs), Ex (hid H' d) (hid H6 d) → DN P w H6 d kvs6 → VKv cs.length kvs6 → (En q (mvd cs t) && En q (mvd cs (lft cs t))) = false → ∃ y3 y4 y5 y6 kvs', ([some (V.ref c), some (V.int ((q + 1 : Nat) : Int)), some (V.ref d), some (V.ref r), some (V.ref la), x5, x6] : L2.St) = [some (.ref c), some (.int ((q + 1 : Nat) : Int)), some (.ref d), y3, y4, y5, y6] ∧ Ex (hid H1 d) (hid H6 d) ∧ DN P w H6 d kvs' ∧ VKv cs.length kvs' ∧ ((prt cs).take (i + 1)).find? (fun t => En q (mvd cs t) && En q (mvd cs (lft cs t))) = none := fun H6 kvs6 e6 hd6 hv6 hb => ⟨_, _, _, _, kvs6, rfl, e.trans e6, hd6, hv6, find_take_succ ht hn hb⟩
      cases hE1 : En q (mvd cs t) with
      | false =>
        rw [hE1, Bool.false_and] at nxt
        exact nxt H4 kvs4 e4 hd4 hv4 rfl
      | true =>
        rw [hE1, Bool.true_and] at nxt
        have hφ2 := hφ'
        have hc4 := keep_at e4 hc' ncd
        have hla4 : H4 la = some (.tup ((ic (lft cs t)).map V.int)) := by
          refine keep_at ((hid_ex e3 d).trans ?_) hla fun z => ?_
          · exact (by assumption : Ex (hid H3 d) (hid H4 d))
          · rw [z] at nla
            rw [hφ'] at nla
            cases nla
        have tk2 := tk.lft
        refine (eu_call (ea_cons (ev_var rfl) (ea_cons (ev_var rfl) ea_nil)) (u_moved hc4 hla4 tk2 h1 (by omega))) H4 (Ex.refl H4) _ fun m2 H5 nm2 e5 hm2 => ?_
        refine ⟨_, rfl, _, _, rfl, rfl, _, rfl, m2, d, mvd cs (lft cs t), q, kvs4, by (show [V.ref m2, V.int (((q + 1 : Nat) : Int) - 1), V.ref d] = _; rw [km]), hm2, by rw [mvd_len h1]; exact h1, by rw [mvd_len h1]; exact h3, Nat.le_trans (mvd_sum tk2 h3) h8, by omega, by omega, hd4.ex e5, by rw [mvd_len h1]; exact hv4, fun H6 kvs6 e6 hd6 hv6 => ⟨_, rfl, ?_⟩⟩
        rw [mvd_len h1] at hv6
        have e6 : Ex (hid H' d) (hid H6 d) := (e4.trans (hid_ex e5 d)).trans e6
        cases hE2 : En q (mvd cs (lft cs t)) with
        | false =>
          rw [hE2] at nxt
          exact nxt H6 kvs6 e6 hd6 hv6 rfl
        | true =>
          have hs : spl q cs = some t := find_none_snoc ht hn (by rw [hE1, hE2]; rfl)
          exact ⟨_, rfl, ks t r H6 kvs6 hs (((hid_ex e1 d).trans e).trans e6) hd6 hv6 (keep_at e6 hr1 fun z => by rw [z, hφ'] at hr1; cases hr1)⟩
  · obtain ⟨x3, x4, x5, x6, kvs', rfl, e, hd', hv', hn⟩ := p
    rw [len_map, hT.len, List.take_of_length_le (Nat.le_refl _)] at hn
    exact kn hn H' kvs' ((hid_ex e1 d).trans e) hd' hv'
theorem both (T : Txt K mg) : ∀ M : Nat, Good P w K mg base CX0 (10 + 2 * M) "enough" ["counts", "many", "known"] (spEnough P w M) ∧ Good P w K mg base CX0 (9 + 2 * M) "split" ["counts", "many", "known"] (spSplit P w M)
  | 0 => ⟨enough_of T (no_split T), no_split T⟩
  | M + 1 => by
    have ih := both T M
    have s := split_of T ih.1
    exact ⟨enough_of T s, s⟩

/-! ### need -/
def spNeed (K : PySem.W.Frag) : Sp := fun vs H Q _ => ∃ (a : Addr) (m : List Int) (L : Nat), vs = [.ref a, .int (L : Int)] ∧ SqL K H a (m.map V.int) ∧ MOk L m ∧ 1 ≤ m.length ∧ RetV (.int (nd L m : Int)) H Q
theorem v_need {H : Hp} {a : Addr} {m : List Int} {L : Nat} (ha : SqL K H a (m.map V.int)) (hm : MOk L m) (h1 : 1 ≤ m.length) : SpV (spNeed K) [.ref a, .int (L : Int)] H (.int (nd L m : Int)) := fun H1 e Q q E => ⟨a, m, L, rfl, ex_l e ha, hm, h1, q⟩
theorem ok_need (T : Txt K mg) : Good P w K mg base CX0 59 "need" ["marks", "lies"] (spNeed K) := by
  have g_asked_marks := ok_askedmarks (P := P) (w := w) (base := base) T
  have g_counted := ok_counted (P := P) (w := w) (base := base) T
  have g_enough := (both (P := P) (w := w) (base := base) T 24).1
  refine Good.of T.f_need sc_need (fun vs H Q E h => ?_) (fun f cdv A outer s H vs Q E hr h => ?_)
  · obtain ⟨a, m, L, rfl, _⟩ := h
    rfl
  obtain ⟨a, m, L, rfl, ha, hm, h1, q⟩ := h
  have h2 := hm.lies
  obtain ⟨nE, n24, nL⟩ := nd_E hm
  refine ⟨_, (pss_cons (ps_expr (cg g_asked_marks (hr.mono (by first | decide | omega)) (pa_cons (pv 0) (pa_cons (pv 1) pa_nil))))
      (pss_cons (ps_set (i := 2) sc_need.nd rfl (Or.inl rfl) (cg g_counted (hr.mono (by first | decide | omega)) (pa_cons (pv 0) (pa_cons (pv 1) pa_nil))))
      (pss_cons (ps_set (i := 3) sc_need.nd rfl (Or.inl rfl) pe_dnewN)
      (pss_cons (ps_set (i := 4) sc_need.nd rfl (Or.inl rfl) pe_int)
      (pss_cons (ps_while PassesOwn.never (pt_not (pt_val (cg g_enough (hr.mono (by first | decide | omega)) (pa_cons (pv 2) (pa_cons (pv 4) (pa_cons (pv 3) pa_nil)))))) (pss_one (ps_set (i := 4) sc_need.nd rfl (Or.inl rfl) (pe_op op_add (pv 4) pe_int))))
      (pss_one (ps_ret (pv 4)))))))), ?_⟩
  refine q_drop (ev_call (ea_cons (ev_var rfl) (ea_cons (ev_var rfl) ea_nil)) (v_askedmarks ha hm h1)) fun H1 e1 => ?_
  refine q_asgU (eu_call (ea_cons (ev_var rfl) (ea_cons (ev_var rfl) ea_nil)) (u_counted (ex_l e1 ha) (by omega))) fun c H2 nc e2 hc => ?_
  have e2 := e1.trans e2
  intro d nd'
  have nd0 := fresh_back e2 nd'
  refine q_asg (v := .int ((0 : Nat) : Int)) ev_c fun H3 e3 => ?_
  have e23 := (Ex.new nd').trans e3
  have hc3 := e23 _ _ hc
  have hd3 : DN P w H3 d [] := ⟨[], e3 _ _ upd_same, .nil⟩
  have ncd : c ≠ d := fun z => by
    rw [z, nd'] at hc
    cases hc
  have s8 : (LA.cnt L m).sum ≤ 8 := by
    rw [cnt_sum hm.mks.nn]
    have z : LA.sta (L : Int) m ≤ m.length := List.countP_le_length
    have := hm.len
    omega
  refine ⟨fun n σ' H' => ∃ (j : Nat) (kvs : Kvs), n = LA.nd L m - j ∧ j ≤ LA.nd L m ∧ σ' = [some (.ref a), some (.int (L : Int)), some (.ref c), some (.ref d), some (.int (j : Int))] ∧ Ex (hid H3 d) (hid H' d) ∧ DN P w H' d kvs ∧ VKv (LA.cnt L m).length kvs, ⟨_, 0, [], rfl, Nat.zero_le _, rfl, Ex.refl _, hd3, VKv.nil _⟩, fun n σ' H' wi => ?_⟩
  obtain ⟨j, kvs, rfl, hj, rfl, e, hd, hv⟩ := wi
  refine ⟨_, rfl, _, rfl, _, rfl, c, d, LA.cnt L m, j, kvs, rfl, keep_at e hc3 ncd, by rw [cnt_len]; omega, by rw [cnt_len]; omega, s8, by omega, by omega, hd, hv, fun H4 kvs4 e4 hd4 hv4 => ⟨_, rfl, ?_⟩⟩
  have e4 := e.trans e4
  by_cases hjn : j = LA.nd L m
  · rw [hjn, nE]
    show tRet (tVar 4) _ _ _
    have e5 : Ex H H4 := ex_of_hid ((e2.trans (Ex.new nd')).trans e3) nd0 e4
    exact s_ret (ev_var rfl) fun H5 e6 => q H5 (e5.trans e6)
  · rw [nL j (by omega)]
    refine ⟨fun σ' H' => ∃ (kvs : Kvs), σ' = [some (.ref a), some (.int (L : Int)), some (.ref c), some (.ref d), some (.int ((j + 1 : Nat) : Int))] ∧ Ex (hid H3 d) (hid H' d) ∧ DN P w H' d kvs ∧ VKv (LA.cnt L m).length kvs, fun σ' H' wi => ?_, ?_⟩
    · obtain ⟨kvs, h1, h2, h3, h4⟩ := wi
      exact ⟨_, by omega, j + 1, kvs, rfl, by omega, h1, h2, h3, h4⟩
    · exact s_asg (ev_op (ev_var rfl) ev_c rv_I0) fun H5 e5 => ⟨kvs4, rfl, e4.trans (hid_ex e5 d), hd4.ex e5, hv4⟩

theorem MOk.afq {L : Nat} {m : List Int} (h : MOk L m) (q : List Int) (y : Bool) : MOk L (LA.afq (L : Int) m q y) := by
  rw [afq_aft]
  exact h.aft (qb_len q _) y

/-! ### the questions by their numbers -/
theorem hasI_askL {c : Int} {n i : Nat} (h : i < n) : hasI (askL c n) (i : Int) = decide (c / 2 ^ i % 2 = 1) := by
  unfold hasI askL
  rw [decide_eq_decide]
  constructor
  · intro hm
    obtain ⟨j, hj, e⟩ := List.mem_map.mp hm
    have e2 : j = i := by omega
    subst e2
    exact of_decide_eq_true (List.mem_filter.mp hj).2
  · intro hm
    exact List.mem_map.mpr ⟨i, List.mem_filter.mpr ⟨List.mem_range.mpr h, decide_eq_true hm⟩, rfl⟩
def num : List Bool → Nat
  | [] => 0
  | b :: r => (if b = true then 1 else 0) + 2 * num r
theorem num_lt : ∀ bs : List Bool, num bs < 2 ^ bs.length
  | [] => by decide
  | b :: r => by
    have ih := num_lt r
    show (if b = true then 1 else 0) + 2 * num r < 2 ^ (r.length + 1)
    rw [Nat.pow_succ]
    split <;> omega
theorem num_snoc : ∀ bs : List Bool, num (bs ++ [false]) = num bs
  | [] => rfl
  | b :: r => by
    show (if b = true then 1 else 0) + 2 * num (r ++ [false]) = (if b = true then 1 else 0) + 2 * num r
    rw [num_snoc r]
theorem num_bit : ∀ (bs : List Bool) (i : Nat), num bs / 2 ^ i % 2 = if bs.getD i false = true then 1 else 0
  | [], i => by
    show 0 / 2 ^ i % 2 = _
    rw [Nat.zero_div]
    rfl
  | b :: r, 0 => by
    show ((if b = true then 1 else 0) + 2 * num r) / 1 % 2 = if b = true then 1 else 0
    rw [Nat.div_one]
    split <;> omega
  | b :: r, i + 1 => by
    show ((if b = true then 1 else 0) + 2 * num r) / 2 ^ (i + 1) % 2 = if r.getD i false = true then 1 else 0
    have e : ((if b = true then 1 else 0) + 2 * num r) / 2 = num r := by split <;> omega
    rw [← num_bit r i, Nat.pow_succ', ← Nat.div_div_eq_div_mul, e]
theorem qb_num {bs : List Bool} {n : Nat} (h : bs.length = n) : qb (askL (num bs : Int) n) n = bs := by
  refine List.ext_getElem (by rw [qb_len, h]) fun i h1 h2 => ?_
  have hi : i < n := by omega
  have g : (qb (askL (num bs : Int) n) n)[i] = hasI (askL (num bs : Int) n) (i : Int) := by simp [qb]
  rw [g, hasI_askL hi]
  have z := num_bit bs i
  have e : bs.getD i false = bs[i] := by
    rw [List.getD_eq_getElem?_getD, List.getElem?_eq_getElem h2]
    rfl
  rw [e] at z
  have z2 : ((num bs : Int) / 2 ^ i % 2 = 1) ↔ bs[i] = true := by
    have c : ((num bs : Int) / 2 ^ i % 2) = ((num bs / 2 ^ i % 2 : Nat) : Int) := by push_cast; rfl
    rw [c, z]
    cases bs[i] <;> decide
  rw [Bool.eq_iff_iff, decide_eq_true_eq, z2]
theorem cnt_perm {L : Nat} {m n : List Int} (e : m.Perm n) : LA.cnt L m = LA.cnt L n := by
  unfold LA.cnt
  exact List.map_congr_left fun k _ => e.count_eq _
theorem not_not' (bs : List Bool) : (bs.map (!·)).map (!·) = bs := by
  rw [List.map_map]
  have : ((!·) ∘ (!·) : Bool → Bool) = id := by
    funext b
    cases b <;> rfl
  rw [this, List.map_id]
theorem En_half {L q : Nat} {m : List Int} (hm : Mks L m) (h1 : 1 ≤ m.length) (h : ¬ LA.sta (L : Int) m ≤ 1) (he : En (q + 1) (LA.cnt L m) = true) :
    ∃ N : Nat, N < 2 ^ (m.length - 1) ∧ En q (LA.cnt L (afq (L : Int) m (askL (N : Int) m.length) true)) = true ∧ En q (LA.cnt L (afq (L : Int) m (askL (N : Int) m.length) false)) = true := by
  rcases (E_G _ m hm).mp he with z | ⟨bs, hl, g1, g2⟩
  · exact absurd z h
  have mk : ∀ cs : List Bool, cs.length = m.length - 1 → Gq L q (aft (L : Int) m (cs ++ [false]) true) → Gq L q (aft (L : Int) m (cs ++ [false]) false) →
      ∃ N : Nat, N < 2 ^ (m.length - 1) ∧ En q (LA.cnt L (afq (L : Int) m (askL (N : Int) m.length) true)) = true ∧ En q (LA.cnt L (afq (L : Int) m (askL (N : Int) m.length) false)) = true := fun cs hc g1 g2 => by
    have hl : (cs ++ [false]).length = m.length := by
      rw [List.length_append, hc]
      show m.length - 1 + 1 = m.length
      omega
    refine ⟨num cs, hc ▸ num_lt cs, ?_, ?_⟩
    · rw [afq_aft, ← num_snoc, qb_num hl]
      exact (E_G _ _ (hm.aft _ _)).mpr g1
    · rw [afq_aft, ← num_snoc, qb_num hl]
      exact (E_G _ _ (hm.aft _ _)).mpr g2
  obtain ⟨cs, b, rfl⟩ : ∃ cs b, bs = cs ++ [b] := by
    refine ⟨bs.dropLast, bs.getLast (fun z => ?_), (List.dropLast_concat_getLast _).symm⟩
    rw [z] at hl
    simp at hl
    omega
  have hc : cs.length = m.length - 1 := by
    rw [List.length_append] at hl
    have : cs.length + 1 = m.length := hl
    omega
  cases b with
  | false => exact mk cs hc g1 g2
  | true =>
    refine mk (cs.map (!·)) (by rw [len_map, hc]) ?_ ?_
    · have z := aft_false (L := (L : Int)) m (cs ++ [true])
      rw [List.map_append] at z
      exact z ▸ g2
    · have z := aft_false (L := (L : Int)) m (cs.map (!·) ++ [false])
      rw [List.map_append, not_not'] at z
      rw [z]
      exact g1
theorem En_full {L q : Nat} {m : List Int} (hm : Mks L m) {N : Nat} (h1 : En q (LA.cnt L (afq (L : Int) m (askL (N : Int) m.length) true)) = true) (h2 : En q (LA.cnt L (afq (L : Int) m (askL (N : Int) m.length) false)) = true) : En (q + 1) (LA.cnt L m) = true := by
  rw [afq_aft] at h1 h2
  exact (E_G _ _ hm).mpr (.inr ⟨_, qb_len _ _, (E_G _ _ (hm.aft _ _)).mp h1, (E_G _ _ (hm.aft _ _)).mp h2⟩)
/-! what is known, some of it not yet -/
theorem mem_putN {kvs : Kvs} {k : Ky} {b : Bool} {p : Ky × Bool} (h : p ∈ putN kvs k b) : p = (k, b) ∨ (p ∈ kvs ∧ p.1 ≠ k) := by
  unfold putN at h
  split at h
  · obtain ⟨p0, hp, rfl⟩ := List.mem_map.mp h
    by_cases e : p0.1 = k
    · rw [if_pos e, e]
      exact .inl rfl
    · rw [if_neg e]
      exact .inr ⟨hp, e⟩
  · rename_i hn
    rcases List.mem_append.mp h with hp | hp
    · refine .inr ⟨hp, fun e => lk_none (kvs := kvs) (k := k) ?_ (List.mem_map.mpr ⟨p, hp, e⟩)⟩
      cases z : lkN kvs k with
      | none => rfl
      | some b =>
        rw [z] at hn
        exact absurd rfl hn
    · exact .inl (List.mem_singleton.mp hp)
theorem nodup_putN {kvs : Kvs} {k : Ky} {b : Bool} (h : (kvs.map (·.1)).Nodup) : ((putN kvs k b).map (·.1)).Nodup := by
  unfold putN
  split
  · rw [List.map_map]
    have e : (kvs.map ((fun (p : Ky × Bool) => p.1) ∘ fun p => if p.1 = k then (p.1, b) else p)) = kvs.map (·.1) := List.map_congr_left fun p _ => by
      show (if p.1 = k then (p.1, b) else p).1 = p.1
      split <;> rfl
    rw [e]
    exact h
  · rename_i hn
    rw [List.map_append]
    refine nodup_snoc h (lk_none ?_)
    cases z : lkN kvs k with
    | none => rfl
    | some b =>
      rw [z] at hn
      exact absurd rfl hn
structure VM (L n q : Nat) (kvs : Kvs) : Prop where
  nodup : (kvs.map (·.1)).Nodup
  ent : ∀ p ∈ kvs, ∃ (c : List Int) (j : Nat), p.1 = (c, (j : Int)) ∧ c.length = n ∧ Mks L c ∧ j ≤ 24
  ok : ∀ (c : List Int) (j : Nat) (b : Bool), ((c, (j : Int)), b) ∈ kvs → j ≤ q → b = En j (LA.cnt L c)
theorem VM.nil (L n q : Nat) : VM L n q [] := ⟨List.nodup_nil, (fun _ h => nomatch h), fun _ _ _ h => nomatch h⟩
theorem VM.down {L n q q' : Nat} {kvs : Kvs} (h : VM L n q kvs) (hq : q' ≤ q) : VM L n q' kvs := ⟨h.nodup, h.ent, fun c j b hm hj => h.ok c j b hm (by omega)⟩
theorem VM.put {L n q : Nat} {kvs : Kvs} (h : VM L n q kvs) {c : List Int} {j : Nat} {b : Bool} (h1 : c.length = n) (h2 : Mks L c) (h3 : j ≤ 24) (hb : j ≤ q → b = En j (LA.cnt L c)) : VM L n q (putN kvs (c, (j : Int)) b) := by
  refine ⟨nodup_putN h.nodup, fun p hp => ?_, fun c' j' b' hp hj => ?_⟩
  · rcases mem_putN hp with rfl | ⟨hp, _⟩
    · exact ⟨c, j, rfl, h1, h2, h3⟩
    · exact h.ent p hp
  · rcases mem_putN hp with e | ⟨hp, _⟩
    · have e1 : c' = c := congrArg (fun p : Ky × Bool => p.1.1) e
      have e2 : (j' : Int) = j := congrArg (fun p : Ky × Bool => p.1.2) e
      have e3 : b' = b := congrArg (fun p : Ky × Bool => p.2) e
      obtain rfl : j' = j := by omega
      subst e1 e3
      exact hb hj
    · exact h.ok c' j' b' hp hj
theorem VM.len {L n q : Nat} {kvs : Kvs} (h : VM L n q kvs) (hn : n ≤ 5) (hL : L ≤ 2) : kvs.length ≤ 30000 := by
  have z := nodup_le (u := (allL 4 n).flatMap fun cs => (List.range 25).map fun (q : Nat) => ((ic cs, (q : Int)) : Ky)) h.nodup (fun k hk => by
    obtain ⟨p, hp, rfl⟩ := List.mem_map.mp hk
    obtain ⟨c, j, e, h1, h2, h3⟩ := h.ent p hp
    rw [e]
    have hc : c = ic (c.map Int.toNat) := by
      unfold ic
      rw [List.map_map]
      conv => lhs; rw [← List.map_id c]
      exact List.map_congr_left fun x hx => by
        have := h2 x hx
        show x = ((x.toNat : Nat) : Int)
        omega
    refine List.mem_flatMap.mpr ⟨c.map Int.toNat, ?_, List.mem_map.mpr ⟨j, List.mem_range.mpr (by omega), by rw [← hc]⟩⟩
    have hl : (c.map Int.toNat).length = n := by rw [len_map, h1]
    rw [← hl]
    exact mem_allL fun x hx => by
      obtain ⟨y, hy, rfl⟩ := List.mem_map.mp hx
      have := h2 y hy
      omega)
  rw [flat_len _ 25 _ (fun l _ => by simp), allL_len, List.length_map] at z
  have : 4 ^ n ≤ 4 ^ 5 := Nat.pow_le_pow_right (by omega) hn
  omega
/-- what is known of more questions is as before -/
def Up (q : Nat) (kvs kvs' : Kvs) : Prop := ∀ p ∈ kvs', (q : Int) < p.1.2 → p ∈ kvs
theorem Up.refl (q : Nat) (kvs : Kvs) : Up q kvs kvs := fun _ h _ => h
theorem Up.trans {q : Nat} {a b c : Kvs} (h : Up q a b) (g : Up q b c) : Up q a c := fun p hp hq => h p (g p hp hq) hq
theorem Up.step {q : Nat} {kvs kvs' : Kvs} {c : List Int} {b : Bool} (h : Up q (putN kvs (c, ((q + 1 : Nat) : Int)) b) kvs') : Up (q + 1) kvs kvs' := fun p hp hq => by
  rcases mem_putN (h p hp (by omega)) with e | ⟨h1, _⟩
  · rw [e] at hq
    exact absurd hq (by show ¬ ((q + 1 : Nat) : Int) < ((q + 1 : Nat) : Int); omega)
  · exact h1
theorem Up.put {q : Nat} {kvs kvs' : Kvs} {c : List Int} {b : Bool} (h : Up (q + 1) kvs kvs') : Up (q + 1) kvs (putN kvs' (c, ((q + 1 : Nat) : Int)) b) := fun p hp hq => by
  rcases mem_putN hp with e | ⟨h1, _⟩
  · rw [e] at hq
    exact absurd hq (by show ¬ ((q + 1 : Nat) : Int) < ((q + 1 : Nat) : Int); omega)
  · exact h p h1 hq
/-- the own level again valid, where the own entry is -/
theorem VM.back {L n q : Nat} {kvs kvs' : Kvs} {c : List Int} {b b' : Bool} (h0 : VM L n (q + 1) kvs) (h : VM L n q kvs') (u : Up q (putN kvs (c, ((q + 1 : Nat) : Int)) b) kvs') (h1 : c.length = n) (h2 : Mks L c) (h3 : q + 1 ≤ 24) (hb : b' = En (q + 1) (LA.cnt L c)) : VM L n (q + 1) (putN kvs' (c, ((q + 1 : Nat) : Int)) b') := by
  refine ⟨nodup_putN h.nodup, (h.put h1 h2 h3 fun hj => absurd hj (by omega)).ent, fun c' j' b2 hp hj => ?_⟩
  rcases mem_putN hp with e | ⟨hp, hne⟩
  · have e1 : c' = c := congrArg (fun p : Ky × Bool => p.1.1) e
    have e2 : (j' : Int) = ((q + 1 : Nat) : Int) := congrArg (fun p : Ky × Bool => p.1.2) e
    have e3 : b2 = b' := congrArg (fun p : Ky × Bool => p.2) e
    obtain rfl : j' = q + 1 := by omega
    subst e1 e3
    exact hb
  · by_cases hj2 : j' ≤ q
    · exact h.ok c' j' b2 hp hj2
    · obtain rfl : j' = q + 1 := by omega
      rcases mem_putN (u _ hp (by show (q : Int) < ((q + 1 : Nat) : Int); omega)) with e | ⟨h4, _⟩
      · exact absurd (congrArg (fun p : Ky × Bool => p.1) e) hne
      · exact h0.ok c' (q + 1) b2 h4 hj
theorem VM.same {L n q : Nat} {kvs kvs' : Kvs} {c : List Int} {b : Bool} (h0 : VM L n (q + 1) kvs) (h : VM L n q kvs') (u : Up q (putN kvs (c, ((q + 1 : Nat) : Int)) b) kvs') (hb : b = En (q + 1) (LA.cnt L c)) : VM L n (q + 1) kvs' := by
  refine ⟨h.nodup, h.ent, fun c' j' b2 hp hj => ?_⟩
  by_cases hj2 : j' ≤ q
  · exact h.ok c' j' b2 hp hj2
  · obtain rfl : j' = q + 1 := by omega
    rcases mem_putN (u _ hp (by show (q : Int) < ((q + 1 : Nat) : Int); omega)) with e | ⟨h4, _⟩
    · have e1 : c' = c := congrArg (fun p : Ky × Bool => p.1.1) e
      have e3 : b2 = b := congrArg (fun p : Ky × Bool => p.2) e
      subst e1 e3
      exact hb
    · exact h0.ok c' (q + 1) b2 h4 hj
theorem VM.all {L n q M : Nat} {kvs kvs' : Kvs} (h0 : VM L n M kvs) (h : VM L n q kvs') (u : Up q kvs kvs') : VM L n M kvs' :=
  ⟨h.nodup, h.ent, fun c j b hp hj => by
    by_cases hj2 : j ≤ q
    · exact h.ok c j b hp hj2
    · exact h0.ok c j b (u _ hp (by show (q : Int) < (j : Int); omega)) hj⟩

/-! ### sorted -/
theorem kc_sorted {X : Cx} (h : X.K = K) : CallR X (.builtin "sorted") (rSorted K) := h ▸ cr_sorted
theorem q_sorted {σ : L2.St} {H : Hp} {te : TE} {D : Ends} {tz : TS} {r : Nat} {m : List Int} (h : EvL te σ H (m.map V.int)) (hm : m.length < 64) (k : ∀ p H1 (ns : List Int), ns.Perm m → H p = none → Ex H H1 → H1 p = some (.lst (ns.map V.int)) → tz D (σ.set r (some (.ref p))) H1) :
    tSeq (tAsg (tCB (rSorted K) (tCons te tNil)) (gName r)) tz D σ H :=
  h H (Ex.refl H) _ fun a H1 na e1 ha => ⟨a, m, rfl, sq_of ha, hm, fun ns p hperm _ np => k p _ ns hperm (fresh_back e1 np) (e1.trans (Ex.new np)) upd_same⟩
theorem q_key {σ : L2.St} {H : Hp} {D : Ends} {tz : TS} {i j r : Nat} {a : Addr} {m : List Int} {q : Int} (hi : σ[i]? = some (some (.ref a))) (hj : σ[j]? = some (some (.int q))) (ha : SqL K H a (m.map V.int)) (hm : m.length < 64)
    (k : ∀ t H1 (ns : List Int), ns.Perm m → H t = none → Ex H H1 → KeyAt H1 t (ns, q) → tz D (σ.set r (some (.ref t))) H1) :
    tSeq (tAsg (tTup (tCons (tCB (rTupS K) (tCons (tCB (rSorted K) (tCons (tVar i) tNil)) tNil)) (tCons (tVar j) tNil))) (gName r)) tz D σ H := by
  refine ⟨_, hi, a, m, rfl, ha, hm, fun ns p hperm _ np => ⟨p, ns.map V.int, rfl, .inl ⟨sq_of upd_same, fun l nl => ⟨_, hj, by show 2 ≤ sizeLine; decide, fun t nt => ?_⟩⟩⟩⟩
  have e1 : Ex H (upd H p (.lst (ns.map V.int))) := Ex.new np
  have e2 := e1.trans (Ex.new (o := .tup (ns.map V.int)) nl)
  have hl := e2.trans (Ex.new (o := .tup [.ref l, .int q]) nt)
  have nlt : l ≠ t := fun z => by
    rw [← z, upd_same] at nt
    cases nt
  exact k t _ ns hperm (fresh_back e2 nt) hl ⟨l, upd_same, upd_other upd_same nlt⟩
/-! ### _law_enough -/
def RetM (P : Program) (w : World) (d : Addr) (L n q : Nat) (kvs : Kvs) (v : V) (H : Hp) (Q : VK) : Prop := ∀ H' kvs', Ex (hid H d) (hid H' d) → DN P w H' d kvs' → VM L n q kvs' → Up q kvs kvs' → Q v H'
def spLE (P : Program) (w : World) (N : Nat) : Sp := fun vs H Q _ => ∃ (a d : Addr) (m : List Int) (L q : Nat) (kvs : Kvs), vs = [.ref a, .int (L : Int), .int (q : Int), .ref d] ∧ H a = some (.lst (m.map V.int)) ∧ MOk L m ∧ 1 ≤ m.length ∧ m.length ≤ 5 ∧ q < N ∧ q ≤ 24 ∧ DN P w H d kvs ∧ VM L m.length q kvs ∧ RetM P w d L m.length q kvs (.bl (En q (LA.cnt L m))) H Q
theorem no_LE (T : Txt K mg) : Good P w K mg base CX0 1 "_law_enough" ["marks", "lies", "many", "known"] (spLE P w 0) := by
  obtain ⟨a, fd, F, hm, hb⟩ := T.f__law_enough
  have no : ∀ vs H Q E, ¬ spLE P w 0 vs H Q E := fun vs H Q E h => by
    obtain ⟨_, _, _, _, q, _, _, _, _, _, _, h, _⟩ := h
    omega
  exact ⟨a, fd, ⟨fun vs H Q E h => absurd h (no vs H Q E), fun A outer s H args us vs Q E _ _ _ _ h => absurd h (no vs H Q E)⟩, hm, F.kp, hb⟩
theorem LE_of {N : Nat} (T : Txt K mg) (g : Good P w K mg base CX0 (1 + N) "_law_enough" ["marks", "lies", "many", "known"] (spLE P w N)) : Good P w K mg base CX0 (1 + (N + 1)) "_law_enough" ["marks", "lies", "many", "known"] (spLE P w (N + 1)) := by
  have g__law_stands := ok_lawstands (P := P) (w := w) (base := base) T
  have g__law_asked_by := ok_askedby (P := P) (w := w) (base := base) T
  have g__law_after := ok_lawafter (P := P) (w := w) (base := base) T
  have g__law_enough := g
  rw [show 1 + (N + 1) = 1 + N + 1 by omega]
  refine Good.of T.f__law_enough sc__law_enough (fun vs H Q E h => ?_) (fun f cdv A outer s H vs Q E hr h => ?_)
  · obtain ⟨a, d, m, L, q, kvs, rfl, _⟩ := h
    rfl
  obtain ⟨a, d, m, L, q, kvs, rfl, ha, hok, h1, h5, hN, h24, hd, hv, k⟩ := h
  have h2 := hok.lies
  have hsum : (LA.cnt L m).sum = LA.sta (L : Int) m := cnt_sum hok.mks.nn
  refine ⟨_, (pss_cons (ps_if (pt_cmpR op_le (pe_callB (kc_len (K := K) rfl) (by rfl) T.b_len (by decide +kernel) (pa_cons (cg g__law_stands (hr.mono (by first | decide | omega)) (pa_cons (pv 0) (pa_cons (pv 1) pa_nil))) pa_nil)) pe_int (nomark _)) (pss_one (ps_ret pe_bl)) pss_nil)
      (pss_cons (ps_if (pt_cmpR op_eq (pv 2) pe_int (nomark _)) (pss_one (ps_ret pe_bl)) pss_nil)
      (pss_cons (ps_set (i := 4) sc__law_enough.nd rfl (Or.inl rfl) (pe_tup (pa_cons (pe_callTy (kc_tuple (K := K) rfl) (by rfl) T.b_tuple (by decide +kernel) (pa_cons (pe_callB (kc_sorted (K := K) rfl) (by rfl) T.b_sorted (by decide +kernel) (pa_cons (pv 0) pa_nil)) pa_nil)) (pa_cons (pv 2) pa_nil))))
      (pss_cons (ps_if (pt_cmpR (op_inN hr.units) (pv 4) (pv 3) (by rfl)) (pss_one (ps_ret (pe_ix (ix_nest hr.units) (pv 3) (pv 4) (fun _ _ => rfl)))) pss_nil)
      (pss_cons (ps_asg pe_bl (pg_sub (pv 3) (pv 4) (set_nest hr.units)))
      (pss_cons (ps_set (i := 5) sc__law_enough.nd rfl (Or.inl rfl) pe_int)
      (pss_cons (ps_for PassesOwn.never rfl (kpi_list (K := K) rfl (pv 0)) (pg_name (i := 6) sc__law_enough.nd rfl (Or.inl rfl)) (pss_one (ps_set (i := 5) sc__law_enough.nd rfl (Or.inl rfl) (pe_op op_mul pe_int (pv 5)))))
      (pss_cons (ps_for PassesOwn.never rfl (pi_range1 (by rfl) T.b_range (pa_cons (pe_op op_fdiv (pv 5) pe_int) pa_nil)) (pg_name (i := 7) sc__law_enough.nd rfl (Or.inl rfl)) (pss_cons (ps_set (i := 8) sc__law_enough.nd rfl (Or.inl rfl) (cg g__law_asked_by (hr.mono (by first | decide | omega)) (pa_cons (pv 7) (pa_cons (pe_callB (kc_len (K := K) rfl) (by rfl) T.b_len (by decide +kernel) (pa_cons (pv 0) pa_nil)) pa_nil))))
      (pss_cons (ps_set (i := 9) sc__law_enough.nd rfl (Or.inl rfl) (pe_callB (kc_sorted (K := K) rfl) (by rfl) T.b_sorted (by decide +kernel) (pa_cons (cg g__law_after (hr.mono (by first | decide | omega)) (pa_cons (pv 0) (pa_cons (pv 1) (pa_cons (pv 8) (pa_cons pe_bl pa_nil))))) pa_nil)))
      (pss_one (ps_if (pt_val (cg g__law_enough (hr.mono (by first | decide | omega)) (pa_cons (pv 9) (pa_cons (pv 1) (pa_cons (pe_op op_sub (pv 2) pe_int) (pa_cons (pv 3) pa_nil)))))) (pss_cons (ps_set (i := 10) sc__law_enough.nd rfl (Or.inl rfl) (pe_callB (kc_sorted (K := K) rfl) (by rfl) T.b_sorted (by decide +kernel) (pa_cons (cg g__law_after (hr.mono (by first | decide | omega)) (pa_cons (pv 0) (pa_cons (pv 1) (pa_cons (pv 8) (pa_cons pe_bl pa_nil))))) pa_nil)))
      (pss_one (ps_if (pt_val (cg g__law_enough (hr.mono (by first | decide | omega)) (pa_cons (pv 10) (pa_cons (pv 1) (pa_cons (pe_op op_sub (pv 2) pe_int) (pa_cons (pv 3) pa_nil)))))) (pss_cons (ps_asg pe_bl (pg_sub (pv 3) (pv 4) (set_nest hr.units)))
      (pss_one (ps_ret pe_bl))) pss_nil))) pss_nil)))))
      (pss_one (ps_ret pe_bl)))))))))), ?_⟩
  refine q_when (b := decide (LA.sta (L : Int) m ≤ 1)) (et_is (et_test (ev_op (ev_lenN (el_call (ea_cons (ev_var rfl) (ea_cons (ev_var rfl) ea_nil)) (l_lawstands (sq_of ha) (by omega)))) ev_c rv_I0)) (by
    rw [len_map, stl_len, decide_eq_decide]
    omega)) (fun hb H1 e1 => ?_) (fun hb H1 e1 => ?_)
  · have hb := of_decide_eq_true hb
    rw [En_found (by omega)] at k
    exact s_ret ev_c fun H2 e2 => k H2 kvs (hid_ex (e1.trans e2) d) (hd.ex (e1.trans e2)) hv (Up.refl _ _)
  have hb := of_decide_eq_false hb
  refine q_when (b := decide ((q : Int) = 0)) (et_test (ev_op (ev_var rfl) ev_c rv_eqI)) (fun hb2 H2 e2 => ?_) (fun hb2 H2 e2 => ?_)
  · have hb2 := of_decide_eq_true hb2
    rw [En_not (by omega) (.inl (by omega))] at k
    exact s_ret ev_c fun H3 e3 => k H3 kvs (hid_ex ((e1.trans e2).trans e3) d) (hd.ex ((e1.trans e2).trans e3)) hv (Up.refl _ _)
  have hb2 := of_decide_eq_false hb2
  obtain ⟨r, rfl⟩ : ∃ r, q = r + 1 := ⟨q - 1, by omega⟩
  have e12 := e1.trans e2
  have ha2 := e12 _ _ ha
  have hd2 := hd.ex e12
  -- key
  refine q_key (i := 0) (j := 2) (m := m) rfl rfl (sq_of ha2) (by omega) fun ka H3 ns hperm nka e3 hk3 => ?_
  have e13 := e12.trans e3
  have hd3 := hd2.ex e3
  have ha3 := e3 _ _ ha2
  obtain ⟨φ3, hφ3⟩ := hd3.at
  have nad : a ≠ d := fun z => by
    rw [z, hφ3] at ha3
    cases ha3
  have hcp : LA.cnt L ns = LA.cnt L m := cnt_perm hperm
  have hnl : ns.length = m.length := hperm.length_eq
  have hnm : Mks L ns := fun x hx => hok.mks x (hperm.mem_iff.mp hx)
  refine q_when (b := (lkN kvs (ns, ((r + 1 : Nat) : Int))).isSome) (et_test (ev_op (ev_var rfl) (ev_var rfl) (rv_inN hk3 hd3))) (fun hb3 H4 e4 => ?_) (fun hb3 H4 e4 => ?_)
  · obtain ⟨b, hlk⟩ := Option.isSome_iff_exists.mp hb3
    have hbv := hv.ok ns (r + 1) b (lk_mem hlk) (Nat.le_refl _)
    rw [hcp] at hbv
    refine s_ret (ev_op (ev_var rfl) (ev_var rfl) (rv_getN (hk3.ex e4) (hd3.ex e4) hlk)) fun H5 e5 => ?_
    rw [hbv]
    exact k H5 kvs (hid_ex ((e13.trans e4).trans e5) d) (hd3.ex (e4.trans e5)) hv (Up.refl _ _)
  have hk4 := hk3.ex e4
  have hd4 := hd3.ex e4
  have e14 := e13.trans e4
  have kl := hv.len h5 h2
  -- known[key] = False
  refine ⟨_, rfl, _, rfl, d, ka, _, kvs, false, rfl, rfl, rfl, hk4, hd4, sz_of (by omega), fun ob hob => ?_⟩
  have eu : Ex (hid H4 d) (hid (upd H4 d ob) d) := by
    rw [hid_upd]
    exact Ex.refl _
  have hd5 := hob _ eu upd_same
  have e15 := (hid_ex e14 d).trans eu
  have hv5 : VM L m.length r (putN kvs (ns, ((r + 1 : Nat) : Int)) false) := (hv.down (by omega)).put hnl hnm h24 fun z => absurd z (by omega)
  generalize upd H4 d ob = H5 at hd5 e15 eu
  clear hob ob
  -- total
  refine q_asg (v := .int ((2 ^ 0 : Nat) : Int)) ev_c fun H6 e6 => ?_
  have ha6 := e6 _ _ (keep_at e15 ha nad)
  refine q_forLn (ev_var rfl) (sq_of ha6) (fun i σ' H' => ∃ x6, σ' = [some (.ref a), some (.int (L : Int)), some (.int ((r + 1 : Nat) : Int)), some (.ref d), some (.ref ka), some (.int ((2 ^ i : Nat) : Int)), x6, none, none, none, none] ∧ Ex H6 H')
    (fun H7 e7 => ⟨none, rfl, e7⟩) (fun i σ' H' _ p => by
      obtain ⟨x6, _, e⟩ := p
      exact sq_of (e _ _ ha6)) (fun i x σ' H' hx p => ?_) (fun σ' H' p => ?_)
  · obtain ⟨x6, rfl, e⟩ := p
    exact s_asg (v := .int ((2 ^ (i + 1) : Nat) : Int)) (ev_is (ev_op ev_c (ev_var rfl) (rv_I (.inl (by decide)))) (by
      show V.int (2 * ((2 ^ i : Nat) : Int)) = _
      rw [Nat.pow_succ]
      congr 1
      omega)) fun H8 e8 => ⟨_, rfl, e.trans e8⟩
  obtain ⟨x6, rfl, e7⟩ := p
  rw [len_map]
  have e57 := e6.trans e7
  have hd7 := hd5.ex e57
  have e17 := e15.trans (hid_ex e57 d)
  have ka7 : KeyAt H' ka (ns, ((r + 1 : Nat) : Int)) := key_keep (eu.trans (hid_ex e57 d)) (e4 _ _ hφ3) hk4
  obtain ⟨hf, hhf⟩ : ∃ hf, hf = 2 ^ (m.length - 1) := ⟨_, rfl⟩
  have tot : ((2 ^ m.length : Nat) : Int) / 2 = (hf : Int) := by
    rw [hhf]
    obtain ⟨n, hn⟩ : ∃ n, m.length = n + 1 := ⟨m.length - 1, by omega⟩
    rw [hn, Nat.pow_succ]
    show _ = ((2 ^ n : Nat) : Int)
    omega
  have t16 : hf ≤ 2 ^ 4 := hhf ▸ Nat.pow_le_pow_right (by omega) (by omega)
  generalize hG0 : H' = G0 at hd7 e17 ka7
  refine q_forR1 (n := (hf : Int)) (ea_cons (ev_is (ev_op (ev_var rfl) ev_c (rv_I (show (0 : Int) < 2 ∧ (2 : Int) < 1073741824 by decide))) (by
      show V.int (_ / 2) = _
      rw [tot])) ea_nil) (by omega)
    (fun i σ' H' => ∃ x6 x7 x8 x9 x10 kvs', σ' = [some (.ref a), some (.int (L : Int)), some (.int ((r + 1 : Nat) : Int)), some (.ref d), some (.ref ka), some (.int ((2 ^ m.length : Nat) : Int)), x6, x7, x8, x9, x10] ∧ Ex (hid G0 d) (hid H' d) ∧ DN P w H' d kvs' ∧ VM L m.length r kvs' ∧ Up r (putN kvs (ns, ((r + 1 : Nat) : Int)) false) kvs' ∧ ∀ j : Nat, j < i → ¬ (En r (LA.cnt L (afq (L : Int) m (askL (j : Int) m.length) true)) = true ∧ En r (LA.cnt L (afq (L : Int) m (askL (j : Int) m.length) false)) = true))
    (fun H8 e8 => ⟨_, none, none, none, none, _, rfl, hid_ex e8 d, hd7.ex e8, hv5, Up.refl _ _, fun j hj => absurd hj (by omega)⟩) (fun i σ' H' hi p => ?_) (fun σ' H' p => ?_)
  · obtain ⟨x6, x7, x8, x9, x10, kvs', rfl, e, hd', hv', hu, hno⟩ := p
    obtain ⟨φ', hφ'⟩ := hd'.at
    have haI := keep_at (e17.trans e) ha nad
    -- asked
    refine q_asgL (el_call (ea_cons (ev_var rfl) (ea_cons (ev_len (ev_var rfl) (sq_of haI)) ea_nil)) (by rw [len_map]; exact l_askedby (by omega))) fun b H8 nb e8 hb => ?_
    have nbd : b ≠ d := fun z => by
      rw [z, hφ'] at nb
      cases nb
    -- yes
    refine q_sorted (m := afq (L : Int) m (askL (i : Int) m.length) true) (el_call (ea_cons (ev_var rfl) (ea_cons (ev_var rfl) (ea_cons (ev_var rfl) (ea_cons ev_c ea_nil)))) (l_lawafter (sq_of (e8 _ _ haI)) (sq_of hb) (by omega))) (by rw [afq_len]; omega) fun y H9 ys hpy ny e9 hy => ?_
    have lym : ys.length = m.length := by rw [hpy.length_eq, afq_len]
    have cy : LA.cnt L ys = LA.cnt L (afq (L : Int) m (askL (i : Int) m.length) true) := cnt_perm hpy
    have oky : MOk L ys := ⟨h2, by omega, fun x hx => (MOk.afq hok (askL (i : Int) m.length) true).mks x (hpy.mem_iff.mp hx)⟩
    have km : ((r + 1 : Nat) : Int) - 1 = (r : Int) := by omega
    have e89 := e8.trans e9
    refine ⟨_, rfl, _, rfl, _, rfl, _, _, rfl, rfl, _, rfl, y, d, ys, L, r, kvs', by (show [V.ref y, V.int (L : Int), V.int (((r + 1 : Nat) : Int) - 1), V.ref d] = _; rw [km]), hy, oky, by omega, by omega, by omega, by omega, hd'.ex e89, by rw [lym]; exact hv', fun H10 kvs10 e10 hd10 hv10 hu10 => ⟨_, rfl, ?_⟩⟩
    rw [lym] at hv10
    rw [cy]
    have hu10 := hu.trans hu10
    have e10' := (hid_ex e89 d).trans e10
    have nxt : ∀ (H6 : Hp) (kvs6 : Kvs) (z10 : Option V), Ex (hid H' d) (hid H6 d) → DN P w H6 d kvs6 → VM L m.length r kvs6 → Up r (putN kvs (ns, ((r + 1 : Nat) : Int)) false) kvs6 → ¬ (En r (LA.cnt L (afq (L : Int) m (askL (i : Int) m.length) true)) = true ∧ En r (LA.cnt L (afq (L : Int) m (askL (i : Int) m.length) false)) = true) →
        ∃ y6 y7 y8 y9 y10 kvs', ([some (V.ref a), some (V.int (L : Int)), some (V.int ((r + 1 : Nat) : Int)), some (V.ref d), some (V.ref ka), some (V.int ((2 ^ m.length : Nat) : Int)), x6, some (V.int (i : Int)), some (V.ref b), some (V.ref y), z10] : L2.St) = [some (.ref a), some (.int (L : Int)), some (.int ((r + 1 : Nat) : Int)), some (.ref d), some (.ref ka), some (.int ((2 ^ m.length : Nat) : Int)), y6, y7, y8, y9, y10] ∧ Ex (hid G0 d) (hid H6 d) ∧ DN P w H6 d kvs' ∧ VM L m.length r kvs' ∧ Up r (putN kvs (ns, ((r + 1 : Nat) : Int)) false) kvs' ∧ ∀ j : Nat, j < i + 1 → ¬ (En r (LA.cnt L (afq (L : Int) m (askL (j : Int) m.length) true)) = true ∧ En r (LA.cnt L (afq (L : Int) m (askL (j : Int) m.length) false)) = true) :=
      fun H6 kvs6 z10 e6 hd6 hv6 hu6 hnot => ⟨_, _, _, _, _, kvs6, rfl, e.trans e6, hd6, hv6, hu6, fun j hj => by
        by_cases hji : j = i
        · rw [hji]
          exact hnot
        · exact hno j (by omega)⟩
    cases hE1 : En r (LA.cnt L (afq (L : Int) m (askL (i : Int) m.length) true)) with
    | false =>
      rw [hE1] at nxt
      exact nxt H10 kvs10 _ e10' hd10 hv10 hu10 (fun z => nomatch z.1)
    | true =>
      have ha10 := keep_at e10' haI nad
      have hb10 := keep_at ((hid_ex e9 d).trans e10) hb nbd
      -- no
      refine q_sorted (m := afq (L : Int) m (askL (i : Int) m.length) false) (el_call (ea_cons (ev_var rfl) (ea_cons (ev_var rfl) (ea_cons (ev_var rfl) (ea_cons ev_c ea_nil)))) (l_lawafter (sq_of ha10) (sq_of hb10) (by omega))) (by rw [afq_len]; omega) fun n H11 nos hpn nn e11 hn => ?_
      have lnm : nos.length = m.length := by rw [hpn.length_eq, afq_len]
      have cn : LA.cnt L nos = LA.cnt L (afq (L : Int) m (askL (i : Int) m.length) false) := cnt_perm hpn
      have okn : MOk L nos := ⟨h2, by omega, fun x hx => (MOk.afq hok (askL (i : Int) m.length) false).mks x (hpn.mem_iff.mp hx)⟩
      refine ⟨_, rfl, _, rfl, _, rfl, _, _, rfl, rfl, _, rfl, n, d, nos, L, r, kvs10, by (show [V.ref n, V.int (L : Int), V.int (((r + 1 : Nat) : Int) - 1), V.ref d] = _; rw [km]), hn, okn, by omega, by omega, by omega, by omega, hd10.ex e11, by rw [lnm]; exact hv10, fun H12 kvs12 e12 hd12 hv12 hu12 => ⟨_, rfl, ?_⟩⟩
      rw [lnm] at hv12
      rw [cn]
      have hu12 := hu10.trans hu12
      have e12' := (e10'.trans (hid_ex e11 d)).trans e12
      cases hE2 : En r (LA.cnt L (afq (L : Int) m (askL (i : Int) m.length) false)) with
      | false =>
        rw [hE2] at nxt
        exact nxt H12 kvs12 _ e12' hd12 hv12 hu12 (fun z => nomatch z.2)
      | true =>
        have hE := En_full hok.mks hE1 hE2
        have kl2 := hv12.len h5 h2
        obtain ⟨φ7, hφ7⟩ := hd7.at
        have ka12 := key_keep (e.trans e12') hφ7 ka7
        -- known[key] = True
        refine ⟨_, rfl, _, rfl, d, ka, _, kvs12, true, rfl, rfl, rfl, ka12, hd12, sz_of (by omega), fun ob hob => ?_⟩
        have eu2 : Ex (hid H12 d) (hid (upd H12 d ob) d) := by
          rw [hid_upd]
          exact Ex.refl _
        have hd13 := hob _ eu2 upd_same
        dsimp only
        refine s_ret (v := .bl true) ev_c fun H14 e14 => ?_
        rw [← hE]
        exact k H14 _ ((((e17.trans e).trans e12').trans eu2).trans (hid_ex e14 d)) (hd13.ex e14) (hv.back hv12 hu12 hnl hnm h24 (by rw [hcp, hE])) (Up.put hu12.step)
  · obtain ⟨x6, x7, x8, x9, x10, kvs', rfl, e, hd', hv', hu, hno⟩ := p
    rw [Int.toNat_natCast] at hno
    have hE : En (r + 1) (LA.cnt L m) = false := by
      cases z : En (r + 1) (LA.cnt L m) with
      | false => rfl
      | true =>
        obtain ⟨j, hj, hj2⟩ := En_half hok.mks h1 hb z
        exact absurd hj2 (hno j (by omega))
    refine s_ret (v := .bl false) ev_c fun H14 e14 => ?_
    rw [← hE]
    exact k H14 _ ((e17.trans e).trans (hid_ex e14 d)) (hd'.ex e14) (hv.same hv' hu (by rw [hcp, hE])) hu.step
theorem ok_LE (T : Txt K mg) : ∀ N : Nat, Good P w K mg base CX0 (1 + N) "_law_enough" ["marks", "lies", "many", "known"] (spLE P w N)
  | 0 => no_LE T
  | N + 1 => LE_of T (ok_LE T N)

/-! ### the law -/
def spLaw (K : PySem.W.Frag) : Sp := fun vs H Q _ => ∃ (a : Addr) (ns : List Int), vs = [.ref a] ∧ SqL K H a (ns.map V.int) ∧ ns.length ≤ 63 ∧ ∀ H', Q (.bl true) H'
theorem ok_law {f : Addr} {fd : FuncData} (F : Fun K "law" "law" s_law f fd) (T : Txt K mg) : FnOk P w K mg base CX0 62 f fd ["script"] (spLaw K) := by
  have g__law_cell_at := ok_cell (P := P) (w := w) (base := base) T
  have g__law_whole := ok_whole (P := P) (w := w) (base := base) T
  have g__law_marks_by := ok_marksby (P := P) (w := w) (base := base) T
  have g__law_enough := ok_LE (P := P) (w := w) (base := base) T 25
  have g_need := ok_need (P := P) (w := w) (base := base) T
  refine F.ok sc_law (fun vs H Q E h => ?_) (fun cdv A outer s H vs Q E hr h => ?_)
  · obtain ⟨a, ns, rfl, _⟩ := h
    rfl
  obtain ⟨a, ns, rfl, hS, h63, q⟩ := h
  refine ⟨_, (pss_cons (ps_asg (cg g__law_marks_by (hr.mono (by first | decide | omega)) (pa_cons (pv 0) (pa_cons (pe_lst (pa_cons pe_int (pa_cons pe_int (pa_cons pe_int pa_nil)))) pa_nil))) (kpg_tup (K := K) (n := 2) rfl (by rfl) (pgs_cons (pg_name (i := 1) sc_law.nd rfl (Or.inl rfl)) (pgs_cons (pg_name (i := 2) sc_law.nd rfl (Or.inl rfl)) pgs_nil))))
      (pss_cons (ps_set (i := 3) sc_law.nd rfl (Or.inl rfl) pe_int)
      (pss_cons (ps_set (i := 4) sc_law.nd rfl (Or.inl rfl) pe_dnewN)
      (pss_cons (ps_while PassesOwn.never (pt_not (pt_val (cg g__law_enough (hr.mono (by first | decide | omega)) (pa_cons (pe_callB (kc_sorted (K := K) rfl) (by rfl) T.b_sorted (by decide +kernel) (pa_cons (pv 1) pa_nil)) (pa_cons (pv 2) (pa_cons (pv 3) (pa_cons (pv 4) pa_nil))))))) (pss_one (ps_set (i := 3) sc_law.nd rfl (Or.inl rfl) (pe_op op_add (pv 3) pe_int))))
      (pss_cons (ps_set (i := 5) sc_law.nd rfl (Or.inl rfl) (pe_callTy (kc_list (K := K) rfl) (by rfl) T.b_list (by decide +kernel) (pa_cons (pv 1) pa_nil)))
      (pss_cons (ps_set (i := 6) sc_law.nd rfl (Or.inl rfl) (cg g_need (hr.mono (by first | decide | omega)) (pa_cons (pv 5) (pa_cons (pv 2) pa_nil))))
      (pss_one (ps_ret (pe_and (cg g__law_whole (hr.mono (by first | decide | omega)) (pa_cons (pv 6) pa_nil)) (pe_and (pe_cmpR op_eq (pv 6) (pv 3) (nomark _)) (pe_and (pe_cmpR (op_eqD hr.units) (pv 5) (pv 1) (nomark _)) (pe_one (pe_cmpR op_eq (cg g_need (hr.mono (by first | decide | omega)) (pa_cons (pv 5) (pa_cons (pv 2) pa_nil))) (pv 3) (nomark _)))))))))))))), ?_⟩
  -- marks, lies
  refine ⟨.ref a, rfl, by show 3 ≤ sizeLine; decide, fun z nz => ?_⟩
  have e0 : Ex H (upd H z (.lst [.int 5, .int 4, .int 3])) := Ex.new nz
  refine ⟨a, z, ns, [5, 4, 3], rfl, ex_l e0 hS, sq_of upd_same, rfl, by decide, fun H1 t mm L m M hL hl => ?_⟩
  obtain ⟨e1, nt, nm, ht, hm, hok, h1⟩ := M
  have e1 := e0.trans e1
  have h2 := hok.lies
  have h5 : m.length ≤ 5 := by
    have h3 : L = 0 ∨ L = 1 ∨ L = 2 := by omega
    have z : ([5, 4, 3] : List Int).getD L 0 ≤ 5 := by rcases h3 with rfl | rfl | rfl <;> decide
    omega
  refine ⟨t, _, rfl, st_of ht, rfl, _, _, rfl, _, [], rfl, rfl, ?_⟩
  -- due, known
  refine q_asg (v := .int ((0 : Nat) : Int)) ev_c fun H2 e2 => ?_
  have hm2 := e2 _ _ hm
  intro d nd'
  have nmd : mm ≠ d := fun z => by
    rw [z, nd'] at hm2
    cases hm2
  obtain ⟨nE, n24, nL⟩ := nd_E hok
  refine ⟨fun n σ' H' => ∃ (j : Nat) (kvs : Kvs), n = LA.nd L m - j ∧ j ≤ LA.nd L m ∧ σ' = [some (.ref a), some (.ref mm), some (.int (L : Int)), some (.int (j : Int)), some (.ref d), none, none] ∧ Ex (hid H2 d) (hid H' d) ∧ DN P w H' d kvs ∧ VM L m.length 24 kvs, ⟨_, 0, [], rfl, Nat.zero_le _, rfl, (by rw [hid_upd]; exact Ex.refl _), ⟨[], upd_same, .nil⟩, VM.nil _ _ _⟩, fun n σ' H' wi => ?_⟩
  obtain ⟨j, kvs, rfl, hj, rfl, e, hd, hv⟩ := wi
  refine ⟨_, rfl, mm, m, rfl, sq_of (keep_at e hm2 nmd), by omega, fun ys y hpy _ ny => ?_⟩
  have lym : ys.length = m.length := hpy.length_eq
  have cy : LA.cnt L ys = LA.cnt L m := cnt_perm hpy
  have oky : MOk L ys := ⟨h2, by omega, fun x hx => hok.mks x (hpy.mem_iff.mp hx)⟩
  have ey : Ex H' (upd H' y (.lst (ys.map V.int))) := Ex.new ny
  refine ⟨_, rfl, _, rfl, _, rfl, y, d, ys, L, j, kvs, rfl, upd_same, oky, by omega, by omega, by omega, by omega, hd.ex ey, by rw [lym]; exact hv.down (by omega), fun H4 kvs4 e4 hd4 hv4 hu4 => ⟨_, rfl, ?_⟩⟩
  rw [lym] at hv4
  rw [cy]
  have e4 := (e.trans (hid_ex ey d)).trans e4
  have hv4 := hv.all hv4 hu4
  by_cases hjn : j = LA.nd L m
  · rw [hjn, nE]
    have hm4 := keep_at e4 hm2 nmd
    dsimp only
    refine q_asgL (el_list (ev_var rfl) (sq_of hm4)) fun hh H5 nh e5 hh5 => ?_
    have hm5 := e5 _ _ hm4
    refine q_asg (ev_call (ea_cons (ev_var rfl) (ea_cons (ev_var rfl) ea_nil)) (v_need (sq_of hh5) hok h1)) fun H6 e6 => ?_
    have hm6 := e6 _ _ hm5
    have hh6 := e6 _ _ hh5
    exact s_ret (v := .bl true) (ev_is (ev_andV (a := true) (b := true) (ev_call (ea_cons (ev_var rfl) ea_nil) v_whole) fun _ => ev_is (ev_andV (a := true) (b := true) (ev_is (ev_op (ev_var rfl) (ev_var rfl) rv_eqI) (by simp)) fun _ => ev_is (ev_andV (a := true) (b := true) (ev_op (ev_var rfl) (ev_var rfl) (rv_eqSameI (ns := m) (sq_of hh6) (sq_of hm6))) fun _ => ev_is (ev_op (ev_call (ea_cons (ev_var rfl) (ea_cons (ev_var rfl) ea_nil)) (v_need (sq_of hh6) hok h1)) (ev_var rfl) rv_eqI) (by simp)) rfl) rfl) rfl) fun H7 e7 => q H7
  · rw [nL j (by omega)]
    refine ⟨fun σ' H' => ∃ (kvs : Kvs), σ' = [some (.ref a), some (.ref mm), some (.int (L : Int)), some (.int ((j + 1 : Nat) : Int)), some (.ref d), none, none] ∧ Ex (hid H2 d) (hid H' d) ∧ DN P w H' d kvs ∧ VM L m.length 24 kvs, fun σ' H' wi => ?_, ?_⟩
    · obtain ⟨kvs, h1, h2, h3, h4⟩ := wi
      exact ⟨_, by omega, j + 1, kvs, rfl, by omega, h1, h2, h3, h4⟩
    · exact s_asg (ev_op (ev_var rfl) ev_c rv_I0) fun H5 e5 => ⟨kvs4, rfl, e4.trans (hid_ex e5 d), hd4.ex e5, hv4⟩

end
theorem all_mk {l : PySem.W.OpenLaw} {w : World} {K : PySem.W.Frag} {h : Heap} {mg : Str → Option Value} {fa : Addr} (X : K.In h) (G : h.Ns mainGlobals mg) (hfa : mg "law" = some (.ref fa))
    {f1 f2 f3 f4 f5 f6 f7 f8 f9 f10 f11 f12 f13 f14 f15 f16 f17 f18 f19 : Addr} {od1 an1 od2 an2 od3 an3 od4 an4 od5 an5 od6 an6 od7 an7 od8 an8 od9 an9 od10 an10 od11 an11 od12 an12 od13 an13 od14 an14 od15 an15 od16 an16 od17 an17 od18 an18 od19 an19 : Option Addr} {sl1 sl2 sl3 sl4 sl5 sl6 sl7 sl8 sl9 sl10 sl11 sl12 sl13 sl14 sl15 sl16 sl17 sl18 sl19 : Array (Option Value)} {oc1 kV1 dc1 pm1 cd1 ct1 oc2 kV2 dc2 pm2 cd2 ct2 oc3 kV3 dc3 pm3 cd3 ct3 oc4 kV4 dc4 pm4 cd4 ct4 oc5 kV5 dc5 pm5 cd5 ct5 oc6 kV6 dc6 pm6 cd6 ct6 oc7 kV7 dc7 pm7 cd7 ct7 oc8 kV8 dc8 pm8 cd8 ct8 oc9 kV9 dc9 pm9 cd9 ct9 oc10 kV10 dc10 pm10 cd10 ct10 oc11 kV11 dc11 pm11 cd11 ct11 oc12 kV12 dc12 pm12 cd12 ct12 oc13 kV13 dc13 pm13 cd13 ct13 oc14 kV14 dc14 pm14 cd14 ct14 oc15 kV15 dc15 pm15 cd15 ct15 oc16 kV16 dc16 pm16 cd16 ct16 oc17 kV17 dc17 pm17 cd17 ct17 oc18 kV18 dc18 pm18 cd18 ct18 oc19 kV19 dc19 pm19 cd19 ct19 : Value}
    (a1 : PySem.W.nsIn K mainGlobals "asked_lies" = some (some (.ref f1))) (l1 : K.lookup f1 = some ⟨oc1, od1, .func (PySem.W.fnOf "asked_lies" "asked_lies" (defArgs s_asked_lies) (defBody s_asked_lies) (defScope s_asked_lies) .none kV1 dc1 pm1 an1 cd1 ct1), sl1⟩) (c1 : PySem.W.codeIn K cd1 "asked_lies" = true) (k1 : PySem.W.keepIn K (.ref f1) = true)
    (a2 : PySem.W.nsIn K mainGlobals "asked_marks" = some (some (.ref f2))) (l2 : K.lookup f2 = some ⟨oc2, od2, .func (PySem.W.fnOf "asked_marks" "asked_marks" (defArgs s_asked_marks) (defBody s_asked_marks) (defScope s_asked_marks) .none kV2 dc2 pm2 an2 cd2 ct2), sl2⟩) (c2 : PySem.W.codeIn K cd2 "asked_marks" = true) (k2 : PySem.W.keepIn K (.ref f2) = true)
    (a3 : PySem.W.nsIn K mainGlobals "picks" = some (some (.ref f3))) (l3 : K.lookup f3 = some ⟨oc3, od3, .func (PySem.W.fnOf "picks" "picks" (defArgs s_picks) (defBody s_picks) (defScope s_picks) .none kV3 dc3 pm3 an3 cd3 ct3), sl3⟩) (c3 : PySem.W.codeIn K cd3 "picks" = true) (k3 : PySem.W.keepIn K (.ref f3) = true)
    (a4 : PySem.W.nsIn K mainGlobals "ways_left" = some (some (.ref f4))) (l4 : K.lookup f4 = some ⟨oc4, od4, .func (PySem.W.fnOf "ways_left" "ways_left" (defArgs s_ways_left) (defBody s_ways_left) (defScope s_ways_left) .none kV4 dc4 pm4 an4 cd4 ct4), sl4⟩) (c4 : PySem.W.codeIn K cd4 "ways_left" = true) (k4 : PySem.W.keepIn K (.ref f4) = true)
    (a5 : PySem.W.nsIn K mainGlobals "counted" = some (some (.ref f5))) (l5 : K.lookup f5 = some ⟨oc5, od5, .func (PySem.W.fnOf "counted" "counted" (defArgs s_counted) (defBody s_counted) (defScope s_counted) .none kV5 dc5 pm5 an5 cd5 ct5), sl5⟩) (c5 : PySem.W.codeIn K cd5 "counted" = true) (k5 : PySem.W.keepIn K (.ref f5) = true)
    (a6 : PySem.W.nsIn K mainGlobals "parts" = some (some (.ref f6))) (l6 : K.lookup f6 = some ⟨oc6, od6, .func (PySem.W.fnOf "parts" "parts" (defArgs s_parts) (defBody s_parts) (defScope s_parts) .none kV6 dc6 pm6 an6 cd6 ct6), sl6⟩) (c6 : PySem.W.codeIn K cd6 "parts" = true) (k6 : PySem.W.keepIn K (.ref f6) = true)
    (a7 : PySem.W.nsIn K mainGlobals "moved" = some (some (.ref f7))) (l7 : K.lookup f7 = some ⟨oc7, od7, .func (PySem.W.fnOf "moved" "moved" (defArgs s_moved) (defBody s_moved) (defScope s_moved) .none kV7 dc7 pm7 an7 cd7 ct7), sl7⟩) (c7 : PySem.W.codeIn K cd7 "moved" = true) (k7 : PySem.W.keepIn K (.ref f7) = true)
    (a8 : PySem.W.nsIn K mainGlobals "heavy" = some (some (.ref f8))) (l8 : K.lookup f8 = some ⟨oc8, od8, .func (PySem.W.fnOf "heavy" "heavy" (defArgs s_heavy) (defBody s_heavy) (defScope s_heavy) .none kV8 dc8 pm8 an8 cd8 ct8), sl8⟩) (c8 : PySem.W.codeIn K cd8 "heavy" = true) (k8 : PySem.W.keepIn K (.ref f8) = true)
    (a9 : PySem.W.nsIn K mainGlobals "enough" = some (some (.ref f9))) (l9 : K.lookup f9 = some ⟨oc9, od9, .func (PySem.W.fnOf "enough" "enough" (defArgs s_enough) (defBody s_enough) (defScope s_enough) .none kV9 dc9 pm9 an9 cd9 ct9), sl9⟩) (c9 : PySem.W.codeIn K cd9 "enough" = true) (k9 : PySem.W.keepIn K (.ref f9) = true)
    (a10 : PySem.W.nsIn K mainGlobals "split" = some (some (.ref f10))) (l10 : K.lookup f10 = some ⟨oc10, od10, .func (PySem.W.fnOf "split" "split" (defArgs s_split) (defBody s_split) (defScope s_split) .none kV10 dc10 pm10 an10 cd10 ct10), sl10⟩) (c10 : PySem.W.codeIn K cd10 "split" = true) (k10 : PySem.W.keepIn K (.ref f10) = true)
    (a11 : PySem.W.nsIn K mainGlobals "need" = some (some (.ref f11))) (l11 : K.lookup f11 = some ⟨oc11, od11, .func (PySem.W.fnOf "need" "need" (defArgs s_need) (defBody s_need) (defScope s_need) .none kV11 dc11 pm11 an11 cd11 ct11), sl11⟩) (c11 : PySem.W.codeIn K cd11 "need" = true) (k11 : PySem.W.keepIn K (.ref f11) = true)
    (a12 : PySem.W.nsIn K mainGlobals "_law_cell_at" = some (some (.ref f12))) (l12 : K.lookup f12 = some ⟨oc12, od12, .func (PySem.W.fnOf "_law_cell_at" "_law_cell_at" (defArgs s__law_cell_at) (defBody s__law_cell_at) (defScope s__law_cell_at) .none kV12 dc12 pm12 an12 cd12 ct12), sl12⟩) (c12 : PySem.W.codeIn K cd12 "_law_cell_at" = true) (k12 : PySem.W.keepIn K (.ref f12) = true)
    (a13 : PySem.W.nsIn K mainGlobals "_law_whole" = some (some (.ref f13))) (l13 : K.lookup f13 = some ⟨oc13, od13, .func (PySem.W.fnOf "_law_whole" "_law_whole" (defArgs s__law_whole) (defBody s__law_whole) (defScope s__law_whole) .none kV13 dc13 pm13 an13 cd13 ct13), sl13⟩) (c13 : PySem.W.codeIn K cd13 "_law_whole" = true) (k13 : PySem.W.keepIn K (.ref f13) = true)
    (a14 : PySem.W.nsIn K mainGlobals "_law_marks_by" = some (some (.ref f14))) (l14 : K.lookup f14 = some ⟨oc14, od14, .func (PySem.W.fnOf "_law_marks_by" "_law_marks_by" (defArgs s__law_marks_by) (defBody s__law_marks_by) (defScope s__law_marks_by) .none kV14 dc14 pm14 an14 cd14 ct14), sl14⟩) (c14 : PySem.W.codeIn K cd14 "_law_marks_by" = true) (k14 : PySem.W.keepIn K (.ref f14) = true)
    (a15 : PySem.W.nsIn K mainGlobals "_law_asked_by" = some (some (.ref f15))) (l15 : K.lookup f15 = some ⟨oc15, od15, .func (PySem.W.fnOf "_law_asked_by" "_law_asked_by" (defArgs s__law_asked_by) (defBody s__law_asked_by) (defScope s__law_asked_by) .none kV15 dc15 pm15 an15 cd15 ct15), sl15⟩) (c15 : PySem.W.codeIn K cd15 "_law_asked_by" = true) (k15 : PySem.W.keepIn K (.ref f15) = true)
    (a16 : PySem.W.nsIn K mainGlobals "_law_after" = some (some (.ref f16))) (l16 : K.lookup f16 = some ⟨oc16, od16, .func (PySem.W.fnOf "_law_after" "_law_after" (defArgs s__law_after) (defBody s__law_after) (defScope s__law_after) .none kV16 dc16 pm16 an16 cd16 ct16), sl16⟩) (c16 : PySem.W.codeIn K cd16 "_law_after" = true) (k16 : PySem.W.keepIn K (.ref f16) = true)
    (a17 : PySem.W.nsIn K mainGlobals "_law_stands" = some (some (.ref f17))) (l17 : K.lookup f17 = some ⟨oc17, od17, .func (PySem.W.fnOf "_law_stands" "_law_stands" (defArgs s__law_stands) (defBody s__law_stands) (defScope s__law_stands) .none kV17 dc17 pm17 an17 cd17 ct17), sl17⟩) (c17 : PySem.W.codeIn K cd17 "_law_stands" = true) (k17 : PySem.W.keepIn K (.ref f17) = true)
    (a18 : PySem.W.nsIn K mainGlobals "_law_enough" = some (some (.ref f18))) (l18 : K.lookup f18 = some ⟨oc18, od18, .func (PySem.W.fnOf "_law_enough" "_law_enough" (defArgs s__law_enough) (defBody s__law_enough) (defScope s__law_enough) .none kV18 dc18 pm18 an18 cd18 ct18), sl18⟩) (c18 : PySem.W.codeIn K cd18 "_law_enough" = true) (k18 : PySem.W.keepIn K (.ref f18) = true)
    (a19 : PySem.W.nsIn K mainGlobals "law" = some (some (.ref f19))) (l19 : K.lookup f19 = some ⟨oc19, od19, .func (PySem.W.fnOf "law" "law" (defArgs s_law) (defBody s_law) (defScope s_law) .none kV19 dc19 pm19 an19 cd19 ct19), sl19⟩) (c19 : PySem.W.codeIn K cd19 "law" = true) (k19 : PySem.W.keepIn K (.ref f19) = true)
    {t_MOST_THINGS t_MOST_LIES : Tok}
    (y_MOST_THINGS : PySem.W.nsIn K mainGlobals "MOST_THINGS" = some (some (.int 8 t_MOST_THINGS)))
    (y_MOST_LIES : PySem.W.nsIn K mainGlobals "MOST_LIES" = some (some (.int 2 t_MOST_LIES)))
    (z_len : PySem.W.nsIn K mainGlobals "len" = some none)
    (z_range : PySem.W.nsIn K mainGlobals "range" = some none)
    (z_int : PySem.W.nsIn K mainGlobals "int" = some none)
    (z_sum : PySem.W.nsIn K mainGlobals "sum" = some none)
    (z_list : PySem.W.nsIn K mainGlobals "list" = some none)
    (z_tuple : PySem.W.nsIn K mainGlobals "tuple" = some none)
    (z_sorted : PySem.W.nsIn K mainGlobals "sorted" = some none)
    (z_zip : PySem.W.nsIn K mainGlobals "zip" = some none)
    (z_isinstance : PySem.W.nsIn K mainGlobals "isinstance" = some none)
    (z_ValueError : PySem.W.nsIn K mainGlobals "ValueError" = some none)
    (z_bool : PySem.W.nsIn K mainGlobals "bool" = some none)
    : ∃ fd : FuncData, (∀ (s : Shared) (v : Value), BindsTo s fd ⟨[v], []⟩ [("script", v)]) ∧ ∀ base : Heap, K.In base → base.Ns mainGlobals mg → FnOk l.prog w K mg base CX0 100 fa fd ["script"] (spLaw K) := by
  have e := hfa.symm.trans (PySem.W.mg_of X G a19)
  cases e
  have F1 := fun_mk (st := s_asked_lies) l1 c1 k1
  have B1 := F1.binds (ps := ["lies"]) fun _ _ _ _ _ _ us hl => match us, hl with | [_], _ => rfl
  have F2 := fun_mk (st := s_asked_marks) l2 c2 k2
  have B2 := F2.binds (ps := ["marks", "lies"]) fun _ _ _ _ _ _ us hl => match us, hl with | [_, _], _ => rfl
  have F3 := fun_mk (st := s_picks) l3 c3 k3
  have B3 := F3.binds (ps := ["total", "some"]) fun _ _ _ _ _ _ us hl => match us, hl with | [_, _], _ => rfl
  have F4 := fun_mk (st := s_ways_left) l4 c4 k4
  have B4 := F4.binds (ps := ["lies", "many"]) fun _ _ _ _ _ _ us hl => match us, hl with | [_, _], _ => rfl
  have F5 := fun_mk (st := s_counted) l5 c5 k5
  have B5 := F5.binds (ps := ["marks", "lies"]) fun _ _ _ _ _ _ us hl => match us, hl with | [_, _], _ => rfl
  have F6 := fun_mk (st := s_parts) l6 c6 k6
  have B6 := F6.binds (ps := ["counts"]) fun _ _ _ _ _ _ us hl => match us, hl with | [_], _ => rfl
  have F7 := fun_mk (st := s_moved) l7 c7 k7
  have B7 := F7.binds (ps := ["counts", "stay"]) fun _ _ _ _ _ _ us hl => match us, hl with | [_, _], _ => rfl
  have F8 := fun_mk (st := s_heavy) l8 c8 k8
  have B8 := F8.binds (ps := ["counts", "many"]) fun _ _ _ _ _ _ us hl => match us, hl with | [_, _], _ => rfl
  have F9 := fun_mk (st := s_enough) l9 c9 k9
  have B9 := F9.binds (ps := ["counts", "many", "known"]) fun _ _ _ _ _ _ us hl => match us, hl with | [_, _, _], _ => rfl
  have F10 := fun_mk (st := s_split) l10 c10 k10
  have B10 := F10.binds (ps := ["counts", "many", "known"]) fun _ _ _ _ _ _ us hl => match us, hl with | [_, _, _], _ => rfl
  have F11 := fun_mk (st := s_need) l11 c11 k11
  have B11 := F11.binds (ps := ["marks", "lies"]) fun _ _ _ _ _ _ us hl => match us, hl with | [_, _], _ => rfl
  have F12 := fun_mk (st := s__law_cell_at) l12 c12 k12
  have B12 := F12.binds (ps := ["script", "k"]) fun _ _ _ _ _ _ us hl => match us, hl with | [_, _], _ => rfl
  have F13 := fun_mk (st := s__law_whole) l13 c13 k13
  have B13 := F13.binds (ps := ["found"]) fun _ _ _ _ _ _ us hl => match us, hl with | [_], _ => rfl
  have F14 := fun_mk (st := s__law_marks_by) l14 c14 k14
  have B14 := F14.binds (ps := ["script", "sizes"]) fun _ _ _ _ _ _ us hl => match us, hl with | [_, _], _ => rfl
  have F15 := fun_mk (st := s__law_asked_by) l15 c15 k15
  have B15 := F15.binds (ps := ["cell", "things"]) fun _ _ _ _ _ _ us hl => match us, hl with | [_, _], _ => rfl
  have F16 := fun_mk (st := s__law_after) l16 c16 k16
  have B16 := F16.binds (ps := ["marks", "lies", "asked", "yes"]) fun _ _ _ _ _ _ us hl => match us, hl with | [_, _, _, _], _ => rfl
  have F17 := fun_mk (st := s__law_stands) l17 c17 k17
  have B17 := F17.binds (ps := ["marks", "lies"]) fun _ _ _ _ _ _ us hl => match us, hl with | [_, _], _ => rfl
  have F18 := fun_mk (st := s__law_enough) l18 c18 k18
  have B18 := F18.binds (ps := ["marks", "lies", "many", "known"]) fun _ _ _ _ _ _ us hl => match us, hl with | [_, _, _, _], _ => rfl
  have T : Txt K mg := { f_asked_lies := ⟨_, _, F1, PySem.W.mg_of X G a1, B1⟩, f_asked_marks := ⟨_, _, F2, PySem.W.mg_of X G a2, B2⟩, f_picks := ⟨_, _, F3, PySem.W.mg_of X G a3, B3⟩, f_ways_left := ⟨_, _, F4, PySem.W.mg_of X G a4, B4⟩, f_counted := ⟨_, _, F5, PySem.W.mg_of X G a5, B5⟩, f_parts := ⟨_, _, F6, PySem.W.mg_of X G a6, B6⟩, f_moved := ⟨_, _, F7, PySem.W.mg_of X G a7, B7⟩, f_heavy := ⟨_, _, F8, PySem.W.mg_of X G a8, B8⟩, f_enough := ⟨_, _, F9, PySem.W.mg_of X G a9, B9⟩, f_split := ⟨_, _, F10, PySem.W.mg_of X G a10, B10⟩, f_need := ⟨_, _, F11, PySem.W.mg_of X G a11, B11⟩, f__law_cell_at := ⟨_, _, F12, PySem.W.mg_of X G a12, B12⟩, f__law_whole := ⟨_, _, F13, PySem.W.mg_of X G a13, B13⟩, f__law_marks_by := ⟨_, _, F14, PySem.W.mg_of X G a14, B14⟩, f__law_asked_by := ⟨_, _, F15, PySem.W.mg_of X G a15, B15⟩, f__law_after := ⟨_, _, F16, PySem.W.mg_of X G a16, B16⟩, f__law_stands := ⟨_, _, F17, PySem.W.mg_of X G a17, B17⟩, f__law_enough := ⟨_, _, F18, PySem.W.mg_of X G a18, B18⟩, c_MOST_THINGS := ⟨_, PySem.W.mg_of X G y_MOST_THINGS⟩, c_MOST_LIES := ⟨_, PySem.W.mg_of X G y_MOST_LIES⟩, b_len := PySem.W.mg_none_of X G z_len, b_range := PySem.W.mg_none_of X G z_range, b_int := PySem.W.mg_none_of X G z_int, b_sum := PySem.W.mg_none_of X G z_sum, b_list := PySem.W.mg_none_of X G z_list, b_tuple := PySem.W.mg_none_of X G z_tuple, b_sorted := PySem.W.mg_none_of X G z_sorted, b_zip := PySem.W.mg_none_of X G z_zip, b_isinstance := PySem.W.mg_none_of X G z_isinstance, b_ValueError := PySem.W.mg_none_of X G z_ValueError, b_bool := PySem.W.mg_none_of X G z_bool }
  have FL := fun_mk (st := s_law) l19 c19 k19
  exact ⟨_, fun s v => .of_eq rfl, fun base _ _ => (ok_law FL T).mono (by decide)⟩
end LW
open PySem PySem.W PyProof.Rows
set_option maxRecDepth 100000 in
set_option maxHeartbeats 0 in
theorem PySem.Challenge.cw_lieask_k03_needs_of_few_holds : PySem.Challenge.rw_lieask_k03_needs_of_few.Holds := by
  w_on; o_law; k_head; (case hw => w_witness2)
  k_fill
  refine L2.walk_of (l := PySem.Challenge.rw_lieask_k03_needs_of_few) (n := 63) (k := 100) (x := "script") (CX := fun _ => L2.CX0) (sp := fun w => LW.spLaw _) rfl (by decide) rfl ⟨rfl, by decide, by decide⟩ (fun w h Y => PySem.W.kIn_of Y) ?F (fun _ _ a ns hl _ hS => ⟨a, ns, rfl, hS, hl, fun _ => rfl⟩) (fun _ _ _ _ _ h => h)
  case F =>
    intro w mg fa h KX G hmg
    refine' LW.all_mk KX G hmg ?a1 ?l1 ?c1 ?k1 ?a2 ?l2 ?c2 ?k2 ?a3 ?l3 ?c3 ?k3 ?a4 ?l4 ?c4 ?k4 ?a5 ?l5 ?c5 ?k5 ?a6 ?l6 ?c6 ?k6 ?a7 ?l7 ?c7 ?k7 ?a8 ?l8 ?c8 ?k8 ?a9 ?l9 ?c9 ?k9 ?a10 ?l10 ?c10 ?k10 ?a11 ?l11 ?c11 ?k11 ?a12 ?l12 ?c12 ?k12 ?a13 ?l13 ?c13 ?k13 ?a14 ?l14 ?c14 ?k14 ?a15 ?l15 ?c15 ?k15 ?a16 ?l16 ?c16 ?k16 ?a17 ?l17 ?c17 ?k17 ?a18 ?l18 ?c18 ?k18 ?a19 ?l19 ?c19 ?k19 ?y_MOST_THINGS ?y_MOST_LIES ?z_len ?z_range ?z_int ?z_sum ?z_list ?z_tuple ?z_sorted ?z_zip ?z_isinstance ?z_ValueError ?z_bool
    (case a1 => k_is)
    (case l1 => k_is)
    (case c1 => k_is)
    (case k1 => k_is)
    (case a2 => k_is)
    (case l2 => k_is)
    (case c2 => k_is)
    (case k2 => k_is)
    (case a3 => k_is)
    (case l3 => k_is)
    (case c3 => k_is)
    (case k3 => k_is)
    (case a4 => k_is)
    (case l4 => k_is)
    (case c4 => k_is)
    (case k4 => k_is)
    (case a5 => k_is)
    (case l5 => k_is)
    (case c5 => k_is)
    (case k5 => k_is)
    (case a6 => k_is)
    (case l6 => k_is)
    (case c6 => k_is)
    (case k6 => k_is)
    (case a7 => k_is)
    (case l7 => k_is)
    (case c7 => k_is)
    (case k7 => k_is)
    (case a8 => k_is)
    (case l8 => k_is)
    (case c8 => k_is)
    (case k8 => k_is)
    (case a9 => k_is)
    (case l9 => k_is)
    (case c9 => k_is)
    (case k9 => k_is)
    (case a10 => k_is)
    (case l10 => k_is)
    (case c10 => k_is)
    (case k10 => k_is)
    (case a11 => k_is)
    (case l11 => k_is)
    (case c11 => k_is)
    (case k11 => k_is)
    (case a12 => k_is)
    (case l12 => k_is)
    (case c12 => k_is)
    (case k12 => k_is)
    (case a13 => k_is)
    (case l13 => k_is)
    (case c13 => k_is)
    (case k13 => k_is)
    (case a14 => k_is)
    (case l14 => k_is)
    (case c14 => k_is)
    (case k14 => k_is)
    (case a15 => k_is)
    (case l15 => k_is)
    (case c15 => k_is)
    (case k15 => k_is)
    (case a16 => k_is)
    (case l16 => k_is)
    (case c16 => k_is)
    (case k16 => k_is)
    (case a17 => k_is)
    (case l17 => k_is)
    (case c17 => k_is)
    (case k17 => k_is)
    (case a18 => k_is)
    (case l18 => k_is)
    (case c18 => k_is)
    (case k18 => k_is)
    (case a19 => k_is)
    (case l19 => k_is)
    (case c19 => k_is)
    (case k19 => k_is)
    (case y_MOST_THINGS => k_is)
    (case y_MOST_LIES => k_is)
    (case z_len => k_is)
    (case z_range => k_is)
    (case z_int => k_is)
    (case z_sum => k_is)
    (case z_list => k_is)
    (case z_tuple => k_is)
    (case z_sorted => k_is)
    (case z_zip => k_is)
    (case z_isinstance => k_is)
    (case z_ValueError => k_is)
    (case z_bool => k_is)
