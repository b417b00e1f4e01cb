import PyProof.Rows.All
import Wide.All
import OpenK.AllK
import Wide.FinOn
import HandS.ForMost
import HandS.ForExc
import HandS.Evl
import HandS.IsInst
import HandS.TupAny
import HandS.Zip
import HandS.SetFor
import HandS.Replace
import HandS.Codes
import HandS.Sort
import HandS.ExcIs
import HandS.HotCalls
import KE.KDictKeyed
import KE.KeyNested
import KE.KTupSum
import PySem.Challenge.RW_lieask_k12_refused
set_option Elab.async false
set_option linter.all false
set_option maxRecDepth 100000
set_option maxHeartbeats 4000000
namespace LA
/-! ### ways to pick -/
def ch : Nat → Nat → Nat
  | _, 0 => 1
  | 0, _ + 1 => 0
  | n + 1, k + 1 => ch n k + ch n (k + 1)
theorem ch_zero (n : Nat) : ch n 0 = 1 := by cases n <;> rfl
theorem ch_big : ∀ (n k : Nat), n < k → ch n k = 0
  | 0, 0, h => by omega
  | 0, _ + 1, _ => rfl
  | n + 1, 0, h => by omega
  | n + 1, k + 1, h => by
    show ch n k + ch n (k + 1) = 0
    rw [ch_big n k (by omega), ch_big n (k + 1) (by omega)]
theorem ch_mul : ∀ (n k : Nat), k ≤ n → (k + 1) * ch n (k + 1) = (n - k) * ch n k
  | 0, 0, _ => rfl
  | 0, k + 1, h => by omega
  | n + 1, 0, _ => by
    have ih := ch_mul n 0 (by omega)
    rw [ch_zero] at ih
    show (0 + 1) * (ch n 0 + ch n (0 + 1)) = (n + 1 - 0) * ch (n + 1) 0
    rw [ch_zero, ch_zero]
    omega
  | n + 1, k + 1, h => by
    have ih1 := ch_mul n k (by omega)
    show (k + 1 + 1) * (ch n (k + 1) + ch n (k + 1 + 1)) = (n + 1 - (k + 1)) * (ch n k + ch n (k + 1))
    by_cases hk : k + 1 ≤ n
    · have ih2 := ch_mul n (k + 1) hk
      have e1 : n + 1 - (k + 1) = n - k := by omega
      rw [e1, Nat.mul_add, Nat.mul_add, ih2, ← ih1]
      have e2 : n - k = (n - (k + 1)) + 1 := by omega
      rw [e2]
      generalize ch n (k + 1) = a
      generalize n - (k + 1) = r
      rw [Nat.add_mul (k + 1) 1 a, Nat.add_mul r 1 a]
      omega
    · have e : k = n := by omega
      subst e
      rw [ch_big k (k + 1) (by omega), ch_big k (k + 1 + 1) (by omega)]
      simp
/-- the program's way to count them -/
def pk (n : Int) : Nat → Int
  | 0 => 1
  | k + 1 => pk n k * (n - (k : Int)) / ((k : Int) + 1)
theorem pk_ch (n : Nat) : ∀ k : Nat, pk (n : Int) k = (ch n k : Int)
  | 0 => by rw [ch_zero]; rfl
  | k + 1 => by
    show pk n k * ((n : Int) - (k : Int)) / ((k : Int) + 1) = (ch n (k + 1) : Int)
    rw [pk_ch n k]
    by_cases h : k ≤ n
    · have e := ch_mul n k h
      have e2 : ((ch n k : Int)) * ((n : Int) - (k : Int)) = ((k : Int) + 1) * (ch n (k + 1) : Int) := by
        have e3 : ((n : Int) - (k : Int)) = ((n - k : Nat) : Int) := by omega
        have e4 : ((k : Int) + 1) = ((k + 1 : Nat) : Int) := by omega
        rw [e3, e4, ← Int.natCast_mul, ← Int.natCast_mul, e, Nat.mul_comm]
      rw [e2, Int.mul_comm, Int.mul_ediv_cancel _ (by omega)]
    · rw [ch_big n k (by omega), ch_big n (k + 1) (by omega)]
      simp
/-- the sum of the first l -/
def wy (l q : Nat) : Nat := ((List.range l).map (ch q)).sum
theorem wy_zero (q : Nat) : wy 0 q = 0 := rfl
theorem wy_succ (l q : Nat) : wy (l + 1) q = wy l q + ch q l := by
  unfold wy
  rw [List.range_succ, List.map_append, List.sum_append]
  simp
theorem wy_pas (q : Nat) : ∀ l : Nat, wy (l + 1) (q + 1) = wy (l + 1) q + wy l q
  | 0 => by
    rw [wy_succ, wy_succ, wy_zero, wy_zero, ch_zero, ch_zero]
  | l + 1 => by
    rw [wy_succ (l + 1) (q + 1), wy_pas q l, wy_succ (l + 1) q, wy_succ l q]
    show _ + (ch q l + ch q (l + 1)) = _
    omega
theorem wy_nought : ∀ l : Nat, wy l 0 = if l = 0 then 0 else 1
  | 0 => rfl
  | 1 => rfl
  | l + 2 => by
    rw [wy_succ, wy_nought (l + 1)]
    rfl
theorem wy_le : ∀ (q l : Nat), wy l q ≤ 2 ^ q
  | 0, l => by
    rw [wy_nought]
    split <;> simp
  | q + 1, 0 => by rw [wy_zero]; exact Nat.zero_le _
  | q + 1, l + 1 => by
    rw [wy_pas, Nat.pow_succ]
    have := wy_le q (l + 1)
    have := wy_le q l
    omega
/-! ### marks -/
def stp (L x : Int) (b : Bool) : Int := if b = true ∨ L < x then x else x + 1
def aft (L : Int) (m : List Int) (bs : List Bool) (y : Bool) : List Int := List.zipWith (fun x b => stp L x (b == y)) m bs
def sta (L : Int) (m : List Int) : Nat := m.countP fun x => decide (x ≤ L)
def Gq (L : Int) : Nat → List Int → Prop
  | 0, m => sta L m ≤ 1
  | q + 1, m => sta L m ≤ 1 ∨ ∃ bs : List Bool, bs.length = m.length ∧ Gq L q (aft L m bs true) ∧ Gq L q (aft L m bs false)
def Wt (L : Int) (m : List Int) (q : Nat) : Nat := (m.map fun x => wy (L + 1 - x).toNat q).sum
theorem W_nil (L : Int) (q : Nat) : Wt L [] q = 0 := rfl
theorem W_cons (L : Int) (x : Int) (m : List Int) (q : Nat) : Wt L (x :: m) q = wy (L + 1 - x).toNat q + Wt L m q := by
  unfold Wt
  rw [List.map_cons, List.sum_cons]
theorem aft_cons (L x : Int) (m : List Int) (b : Bool) (bs : List Bool) (y : Bool) : aft L (x :: m) (b :: bs) y = stp L x (b == y) :: aft L m bs y := rfl
theorem aft_len {L : Int} {m : List Int} {bs : List Bool} {y : Bool} (h : bs.length = m.length) : (aft L m bs y).length = m.length := by
  unfold aft
  rw [List.length_zipWith, h, Nat.min_self]
theorem sta_cons (L x : Int) (m : List Int) : sta L (x :: m) = sta L m + if x ≤ L then 1 else 0 := by
  unfold sta
  rw [List.countP_cons]
  simp
theorem wy_stp (L x : Int) (q : Nat) : wy (L + 1 - x).toNat (q + 1) = wy (L + 1 - stp L x true).toNat q + wy (L + 1 - stp L x false).toNat q := by
  unfold stp
  by_cases h : L < x
  · have e : (L + 1 - x).toNat = 0 := by omega
    simp [h, e, wy_zero]
  · have e : (L + 1 - x).toNat = (L + 1 - (x + 1)).toNat + 1 := by omega
    simp only [if_true, h, or_false, if_false, Bool.false_eq_true, e]
    exact wy_pas q _
theorem W_split (L : Int) (q : Nat) : ∀ (m : List Int) (bs : List Bool), bs.length = m.length → Wt L m (q + 1) = Wt L (aft L m bs true) q + Wt L (aft L m bs false) q
  | [], [], _ => rfl
  | [], _ :: _, h => by simp at h
  | _ :: _, [], h => by simp at h
  | x :: m, b :: bs, h => by
    have ih := W_split L q m bs (by simpa using h)
    rw [aft_cons, aft_cons, W_cons, W_cons, W_cons, ih]
    have e := wy_stp L x q
    cases b
    · show _ = wy (L + 1 - stp L x false).toNat q + _ + (wy (L + 1 - stp L x true).toNat q + _)
      omega
    · show _ = wy (L + 1 - stp L x true).toNat q + _ + (wy (L + 1 - stp L x false).toNat q + _)
      omega
theorem W_zero (L : Int) : ∀ m : List Int, Wt L m 0 = sta L m
  | [] => rfl
  | x :: m => by
    rw [W_cons, sta_cons, W_zero L m, wy_nought]
    by_cases h : x ≤ L
    · rw [if_neg (by omega), if_pos h]; omega
    · rw [if_pos (by omega), if_neg h]; omega
theorem W_sta (L : Int) (q : Nat) : ∀ m : List Int, Wt L m q ≤ sta L m * 2 ^ q
  | [] => by rw [W_nil]; exact Nat.zero_le _
  | x :: m => by
    rw [W_cons, sta_cons]
    have ih := W_sta L q m
    by_cases h : x ≤ L
    · rw [if_pos h, Nat.add_mul]
      have := wy_le q (L + 1 - x).toNat
      omega
    · rw [if_neg h, show (L + 1 - x).toNat = 0 by omega, wy_zero, Nat.add_zero]
      omega
theorem G_vol {L : Int} : ∀ {q : Nat} {m : List Int}, Gq L q m → Wt L m q ≤ 2 ^ q
  | 0, m, h => by
    rw [W_zero]
    exact h
  | q + 1, m, h => by
    rcases h with h | ⟨bs, hl, h1, h2⟩
    · have := W_sta L (q + 1) m
      have z : sta L m * 2 ^ (q + 1) ≤ 1 * 2 ^ (q + 1) := Nat.mul_le_mul_right _ h
      omega
    · rw [W_split L q m bs hl, Nat.pow_succ]
      have := G_vol h1
      have := G_vol h2
      omega
theorem G_found {L : Int} {m : List Int} (h : sta L m ≤ 1) : ∀ q : Nat, Gq L q m
  | 0 => h
  | _ + 1 => .inl h
theorem G_succ {L : Int} : ∀ {q : Nat} {m : List Int}, Gq L q m → Gq L (q + 1) m
  | 0, m, h => .inl h
  | q + 1, m, h => by
    rcases h with h | ⟨bs, hl, h1, h2⟩
    · exact .inl h
    · exact .inr ⟨bs, hl, G_succ h1, G_succ h2⟩
theorem G_up {L : Int} {q r : Nat} {m : List Int} (h : Gq L q m) (hr : q ≤ r) : Gq L r m := by
  induction hr with
  | refl => exact h
  | step _ ih => exact G_succ ih
/-! marks that are no less -/
inductive LeL : List Int → List Int → Prop
  | nil : LeL [] []
  | cons {x y m n} : x ≤ y → LeL m n → LeL (x :: m) (y :: n)
theorem LeL.refl : ∀ m : List Int, LeL m m
  | [] => .nil
  | _ :: m => .cons (Int.le_refl _) (LeL.refl m)
theorem LeL.len {m n : List Int} (h : LeL m n) : m.length = n.length := by
  induction h with
  | nil => rfl
  | cons _ _ ih => simp [ih]
theorem LeL.sta {L : Int} {m n : List Int} (h : LeL m n) : LA.sta L n ≤ LA.sta L m := by
  induction h with
  | nil => exact Nat.le_refl _
  | @cons x y m n h _ ih =>
    rw [sta_cons, sta_cons]
    by_cases hy : y ≤ L
    · rw [if_pos hy, if_pos (by omega)]; omega
    · rw [if_neg hy]; omega
theorem stp_le {L x y : Int} (h : x ≤ y) (b : Bool) : stp L x b ≤ stp L y b := by
  unfold stp
  cases b <;> simp <;> grind
theorem LeL.aft {L : Int} {m n : List Int} (h : LeL m n) (y : Bool) : ∀ bs : List Bool, LeL (LA.aft L m bs y) (LA.aft L n bs y) := by
  induction h with
  | nil => intro bs; cases bs <;> exact .nil
  | cons h _ ih =>
    intro bs
    cases bs with
    | nil => exact .nil
    | cons b bs => exact .cons (stp_le h _) (ih bs)
theorem G_le {L : Int} : ∀ {q : Nat} {m n : List Int}, LeL m n → Gq L q m → Gq L q n
  | 0, m, n, e, h => Nat.le_trans (e.sta) h
  | q + 1, m, n, e, h => by
    rcases h with h | ⟨bs, hl, h1, h2⟩
    · exact .inl (Nat.le_trans e.sta h)
    · exact .inr ⟨bs, by rw [hl, e.len], G_le (e.aft true bs) h1, G_le (e.aft false bs) h2⟩
/-! some number of questions is enough -/
def ph (L : Int) (m : List Int) : Nat := (m.map fun x => (L + 1 - x).toNat).sum
theorem ph_cons (L x : Int) (m : List Int) : ph L (x :: m) = (L + 1 - x).toNat + ph L m := by
  unfold ph
  rw [List.map_cons, List.sum_cons]
theorem aft_told (L : Int) (y : Bool) : ∀ m : List Int, aft L m (List.replicate m.length y) y = m
  | [] => rfl
  | x :: m => by
    show stp L x (y == y) :: aft L m (List.replicate m.length y) y = x :: m
    rw [aft_told L y m]
    simp [stp]
theorem ph_stp (L : Int) (x : Int) (b : Bool) : (L + 1 - stp L x b).toNat ≤ (L + 1 - x).toNat := by
  unfold stp
  split <;> omega
theorem ph_aft_le (L : Int) (y : Bool) : ∀ (m : List Int) (bs : List Bool), bs.length = m.length → ph L (aft L m bs y) ≤ ph L m
  | [], [], _ => Nat.le_refl _
  | [], _ :: _, h => by simp at h
  | _ :: _, [], h => by simp at h
  | x :: m, b :: bs, h => by
    rw [aft_cons, ph_cons, ph_cons]
    have := ph_aft_le L y m bs (by simpa using h)
    have := ph_stp L x (b == y)
    omega
theorem ph_not (L : Int) (y : Bool) : ∀ m : List Int, 1 ≤ sta L m → ph L (aft L m (List.replicate m.length (!y)) y) < ph L m
  | [], h => by simp [sta] at h
  | x :: m, h => by
    show ph L (stp L x ((!y) == y) :: aft L m (List.replicate m.length (!y)) y) < ph L (x :: m)
    rw [ph_cons, ph_cons]
    have e : ((!y) == y) = false := by cases y <;> rfl
    rw [e]
    by_cases hx : x ≤ L
    · have := ph_aft_le L y m (List.replicate m.length (!y)) (by simp)
      have e2 : stp L x false = x + 1 := by
        unfold stp
        rw [if_neg (by simp; omega)]
      rw [e2]
      omega
    · rw [sta_cons, if_neg hx] at h
      have := ph_not L y m (by omega)
      have := ph_stp L x false
      omega
theorem ph_some (L : Int) : ∀ m : List Int, 2 ≤ sta L m → ∃ bs : List Bool, bs.length = m.length ∧ ph L (aft L m bs true) < ph L m ∧ ph L (aft L m bs false) < ph L m
  | [], h => by simp [sta] at h
  | x :: m, h => by
    rw [sta_cons] at h
    by_cases hx : x ≤ L
    · rw [if_pos hx] at h
      refine ⟨true :: List.replicate m.length false, by simp, ?_, ?_⟩
      · rw [aft_cons, ph_cons, ph_cons]
        have := ph_not L true m (by omega)
        have := ph_stp L x (true == true)
        simp only [Bool.not_true] at *
        omega
      · rw [aft_cons, ph_cons, ph_cons, aft_told]
        have e2 : stp L x (true == false) = x + 1 := by
          unfold stp
          rw [if_neg (by simp; omega)]
        rw [e2]
        omega
    · rw [if_neg hx] at h
      obtain ⟨bs, hl, h1, h2⟩ := ph_some L m (by omega)
      refine ⟨false :: bs, by simp [hl], ?_, ?_⟩
      · rw [aft_cons, ph_cons, ph_cons]
        have := ph_stp L x (false == true)
        omega
      · rw [aft_cons, ph_cons, ph_cons]
        have := ph_stp L x (false == false)
        omega
theorem G_ph {L : Int} : ∀ (n : Nat) (m : List Int), ph L m ≤ n → Gq L n m
  | 0, m, h => by
    by_cases hs : sta L m ≤ 1
    · exact hs
    · obtain ⟨bs, _, h1, _⟩ := ph_some L m (by omega)
      omega
  | n + 1, m, h => by
    by_cases hs : sta L m ≤ 1
    · exact .inl hs
    · obtain ⟨bs, hl, h1, h2⟩ := ph_some L m (by omega)
      exact .inr ⟨bs, hl, G_ph n _ (by omega), G_ph n _ (by omega)⟩
theorem ph_bound {L : Int} {k : Nat} : ∀ m : List Int, (∀ x ∈ m, 0 ≤ x) → L + 1 ≤ k → ph L m ≤ k * m.length
  | [], _, _ => by simp [ph]
  | x :: m, h, hk => by
    rw [ph_cons, List.length_cons, Nat.mul_add]
    have := ph_bound m (fun y hy => h y (List.mem_cons_of_mem _ hy)) hk
    have := h x List.mem_cons_self
    omega
end LA

namespace LA
/-! ### how many things have each mark -/
def cnt (L : Nat) (m : List Int) : List Nat := (List.range (L + 1)).map fun (k : Nat) => m.count (k : Int)
def mvd (cs s : List Nat) : List Nat := s.getD 0 0 :: (List.range (cs.length - 1)).map fun k => s.getD (k + 1) 0 + cs.getD k 0 - s.getD k 0
def lft (cs s : List Nat) : List Nat := List.zipWith (fun a b => a - b) cs s
def wct (cs : List Nat) (q : Nat) : Nat := ((List.range cs.length).map fun k => cs.getD k 0 * wy (cs.length - k) q).sum
def heavy (cs : List Nat) (q : Nat) : Bool := decide (2 ^ q < wct cs q)
def prt1 (found : List (List Nat)) (c : Nat) : List (List Nat) := found.flatMap fun t => (List.range (c + 1)).map fun s => t ++ [s]
def prt (cs : List Nat) : List (List Nat) := cs.foldl prt1 [[]]
def En : Nat → List Nat → Bool
  | 0, cs => decide (cs.sum ≤ 1)
  | q + 1, cs => decide (cs.sum ≤ 1) || (!heavy cs (q + 1) && (prt cs).any fun t => En q (mvd cs t) && En q (mvd cs (lft cs t)))
theorem cnt_len (L : Nat) (m : List Int) : (cnt L m).length = L + 1 := by simp [cnt]
theorem cnt_get {L : Nat} {m : List Int} {k : Nat} (h : k ≤ L) : (cnt L m).getD k 0 = m.count (k : Int) := by
  unfold cnt
  rw [List.getD_eq_getElem?_getD, List.getElem?_map, List.getElem?_range (by omega)]
  rfl
/-! all ways to take of each -/
inductive Tk : List Nat → List Nat → Prop
  | nil : Tk [] []
  | cons {t c ts cs} : t ≤ c → Tk ts cs → Tk (t :: ts) (c :: cs)
theorem Tk.len {t cs : List Nat} (h : Tk t cs) : t.length = cs.length := by
  induction h with
  | nil => rfl
  | cons _ _ ih => simp [ih]
theorem Tk.get {t cs : List Nat} (h : Tk t cs) : ∀ k : Nat, t.getD k 0 ≤ cs.getD k 0 := by
  induction h with
  | nil => intro k; simp
  | cons h _ ih =>
    intro k
    cases k with
    | zero => exact h
    | succ k => exact ih k
theorem Tk.of : ∀ {t cs : List Nat}, t.length = cs.length → (∀ k : Nat, t.getD k 0 ≤ cs.getD k 0) → Tk t cs
  | [], [], _, _ => .nil
  | [], _ :: _, h, _ => by simp at h
  | _ :: _, [], h, _ => by simp at h
  | a :: t, b :: cs, h, g => .cons (g 0) (Tk.of (by simpa using h) fun k => g (k + 1))
theorem mem_prt1 {found : List (List Nat)} {c : Nat} {u : List Nat} : u ∈ prt1 found c ↔ ∃ t ∈ found, ∃ s, s ≤ c ∧ u = t ++ [s] := by
  unfold prt1
  simp only [List.mem_flatMap, List.mem_map, List.mem_range]
  constructor
  · rintro ⟨t, ht, s, hs, rfl⟩
    exact ⟨t, ht, s, by omega, rfl⟩
  · rintro ⟨t, ht, s, hs, rfl⟩
    exact ⟨t, ht, s, by omega, rfl⟩
theorem mem_fold : ∀ (cs : List Nat) (found : List (List Nat)) (u : List Nat), u ∈ cs.foldl prt1 found ↔ ∃ t ∈ found, ∃ v, Tk v cs ∧ u = t ++ v
  | [], found, u => by
    constructor
    · intro h
      exact ⟨u, h, [], .nil, by simp⟩
    · rintro ⟨t, ht, v, hv, rfl⟩
      cases hv
      simpa using ht
  | c :: cs, found, u => by
    show u ∈ cs.foldl prt1 (prt1 found c) ↔ _
    rw [mem_fold cs (prt1 found c) u]
    constructor
    · rintro ⟨t, ht, v, hv, rfl⟩
      obtain ⟨t', ht', s, hs, rfl⟩ := mem_prt1.mp ht
      exact ⟨t', ht', s :: v, .cons hs hv, by simp⟩
    · rintro ⟨t, ht, v, hv, rfl⟩
      cases hv with
      | @cons s _ v _ hs hv => exact ⟨t ++ [s], mem_prt1.mpr ⟨t, ht, s, hs, rfl⟩, v, hv, by simp⟩
theorem mem_prt {cs u : List Nat} : u ∈ prt cs ↔ Tk u cs := by
  unfold prt
  rw [mem_fold]
  constructor
  · rintro ⟨t, ht, v, hv, rfl⟩
    have e : t = [] := by simpa using ht
    subst e
    exact hv
  · intro h
    exact ⟨[], by simp, u, h, rfl⟩
/-! what a question takes of each mark -/
def tk1 (k : Int) (m : List Int) (bs : List Bool) : Nat := (m.zip bs).countP fun p => decide (p.1 = k) && p.2
def tkn (L : Nat) (m : List Int) (bs : List Bool) : List Nat := (List.range (L + 1)).map fun (k : Nat) => tk1 (k : Int) m bs
theorem tkn_len (L : Nat) (m : List Int) (bs : List Bool) : (tkn L m bs).length = L + 1 := by simp [tkn]
theorem tkn_get {L : Nat} {m : List Int} {bs : List Bool} {k : Nat} (h : k ≤ L) : (tkn L m bs).getD k 0 = tk1 (k : Int) m bs := by
  unfold tkn
  rw [List.getD_eq_getElem?_getD, List.getElem?_map, List.getElem?_range (by omega)]
  rfl
theorem tk1_cons (k x : Int) (m : List Int) (b : Bool) (bs : List Bool) : tk1 k (x :: m) (b :: bs) = tk1 k m bs + if x = k ∧ b = true then 1 else 0 := by
  unfold tk1
  rw [List.zip_cons_cons, List.countP_cons]
  simp
theorem count_cons' (k x : Int) (m : List Int) : (x :: m).count k = m.count k + if x = k then 1 else 0 := by
  rw [List.count_cons]
  simp
theorem tk1_le (k : Int) : ∀ (m : List Int) (bs : List Bool), tk1 k m bs ≤ m.count k
  | [], bs => by simp [tk1]
  | x :: m, [] => by simp [tk1]
  | x :: m, b :: bs => by
    rw [tk1_cons, count_cons']
    have := tk1_le k m bs
    by_cases h : x = k <;> cases b <;> simp [h] <;> omega
theorem aft_nought {L : Nat} : ∀ (m : List Int) (bs : List Bool), bs.length = m.length → (∀ x ∈ m, 0 ≤ x) → (aft L m bs true).count 0 = tk1 0 m bs
  | [], [], _, _ => rfl
  | [], _ :: _, h, _ => by simp at h
  | _ :: _, [], h, _ => by simp at h
  | x :: m, b :: bs, h, hx => by
    rw [aft_cons, tk1_cons, count_cons', aft_nought m bs (by simpa using h) fun y hy => hx y (List.mem_cons_of_mem _ hy)]
    have h0 := hx x List.mem_cons_self
    unfold stp
    cases b <;> simp <;> grind
theorem aft_more {L : Nat} {k : Nat} (hk : k + 1 ≤ L) : ∀ (m : List Int) (bs : List Bool), bs.length = m.length → (∀ x ∈ m, 0 ≤ x) →
    (aft L m bs true).count ((k + 1 : Nat) : Int) + tk1 (k : Int) m bs = tk1 ((k + 1 : Nat) : Int) m bs + m.count (k : Int)
  | [], [], _, _ => rfl
  | [], _ :: _, h, _ => by simp at h
  | _ :: _, [], h, _ => by simp at h
  | x :: m, b :: bs, h, hx => by
    rw [aft_cons, tk1_cons, tk1_cons, count_cons', count_cons']
    have ih := aft_more hk m bs (by simpa using h) fun y hy => hx y (List.mem_cons_of_mem _ hy)
    have h0 := hx x List.mem_cons_self
    unfold stp
    cases b <;> simp <;> grind
theorem cnt_true {L : Nat} {m : List Int} {bs : List Bool} (h : bs.length = m.length) (hx : ∀ x ∈ m, 0 ≤ x) : cnt L (aft L m bs true) = mvd (cnt L m) (tkn L m bs) := by
  unfold mvd
  rw [cnt_len]
  show (List.range (L + 1)).map _ = _
  rw [List.range_succ_eq_map, List.map_cons, List.map_map]
  congr 1
  · rw [tkn_get (Nat.zero_le _)]
    exact aft_nought m bs h hx
  · refine List.map_congr_left fun k hk => ?_
    have hk' : k + 1 ≤ L := by
      have := List.mem_range.mp hk
      omega
    rw [tkn_get hk', tkn_get (by omega), cnt_get (by omega)]
    have := aft_more hk' m bs h hx
    have := tk1_le (k : Int) m bs
    show (aft L m bs true).count ((k + 1 : Nat) : Int) = _
    omega
theorem aft_false {L : Int} : ∀ (m : List Int) (bs : List Bool), aft L m bs false = aft L m (bs.map (!·)) true
  | [], bs => by cases bs <;> rfl
  | x :: m, [] => rfl
  | x :: m, b :: bs => by
    show stp L x (b == false) :: aft L m bs false = stp L x ((!b) == true) :: aft L m (bs.map (!·)) true
    rw [aft_false m bs]
    cases b <;> rfl
theorem tk1_not {k : Int} : ∀ (m : List Int) (bs : List Bool), bs.length = m.length → tk1 k m (bs.map (!·)) + tk1 k m bs = m.count k
  | [], [], _ => rfl
  | [], _ :: _, h => by simp at h
  | _ :: _, [], h => by simp at h
  | x :: m, b :: bs, h => by
    rw [List.map_cons, tk1_cons, tk1_cons, count_cons']
    have ih := tk1_not (k := k) m bs (by simpa using h)
    by_cases hx : x = k <;> cases b <;> simp [hx] <;> omega
theorem tkn_not {L : Nat} {m : List Int} {bs : List Bool} (h : bs.length = m.length) : tkn L m (bs.map (!·)) = lft (cnt L m) (tkn L m bs) := by
  unfold lft
  refine List.ext_getElem? fun k => ?_
  unfold tkn cnt
  rw [List.getElem?_zipWith, List.getElem?_map, List.getElem?_map, List.getElem?_map]
  by_cases hk : k < L + 1
  · rw [List.getElem?_range hk]
    have := tk1_not (k := (k : Int)) m bs h
    show some (tk1 (k : Int) m (bs.map (!·))) = some (m.count (k : Int) - tk1 (k : Int) m bs)
    congr 1
    omega
  · rw [List.getElem?_eq_none (by simp; omega)]
    rfl
theorem cnt_false {L : Nat} {m : List Int} {bs : List Bool} (h : bs.length = m.length) (hx : ∀ x ∈ m, 0 ≤ x) : cnt L (aft L m bs false) = mvd (cnt L m) (lft (cnt L m) (tkn L m bs)) := by
  rw [aft_false, cnt_true (by simpa using h) hx, tkn_not h]
theorem tkn_tk {L : Nat} (m : List Int) (bs : List Bool) : Tk (tkn L m bs) (cnt L m) := by
  refine Tk.of (by rw [tkn_len, cnt_len]) fun k => ?_
  by_cases hk : k ≤ L
  · rw [tkn_get hk, cnt_get hk]
    exact tk1_le _ m bs
  · rw [List.getD_eq_getElem?_getD, List.getElem?_eq_none (by rw [tkn_len]; omega)]
    exact Nat.zero_le _
/-! a question that takes so many -/
def grd (L : Nat) : List Int → List Nat → List Bool
  | [], _ => []
  | x :: m, t => if x ≤ (L : Int) ∧ 0 < t.getD x.toNat 0 then true :: grd L m (t.set x.toNat (t.getD x.toNat 0 - 1)) else false :: grd L m t
theorem grd_len (L : Nat) : ∀ (m : List Int) (t : List Nat), (grd L m t).length = m.length
  | [], _ => rfl
  | x :: m, t => by
    unfold grd
    split <;> simp [grd_len L m]
theorem getD_set (t : List Nat) (i k a : Nat) : (t.set i a).getD k 0 = if i = k ∧ k < t.length then a else t.getD k 0 := by
  rw [List.getD_eq_getElem?_getD, List.getElem?_set, List.getD_eq_getElem?_getD]
  by_cases h : i = k
  · subst h
    by_cases h2 : i < t.length
    · simp [h2]
    · simp [h2]
  · simp [h]
theorem grd_tk1 {L : Nat} {k : Nat} (hk : k ≤ L) : ∀ (m : List Int) (t : List Nat), (∀ x ∈ m, 0 ≤ x) → t.length = L + 1 → tk1 (k : Int) m (grd L m t) = min (t.getD k 0) (m.count (k : Int))
  | [], t, _, _ => by simp [tk1]
  | x :: m, t, hx, hl => by
    have h0 := hx x List.mem_cons_self
    have hx' : ∀ y ∈ m, 0 ≤ y := fun y hy => hx y (List.mem_cons_of_mem _ hy)
    unfold grd
    by_cases h : x ≤ (L : Int) ∧ 0 < t.getD x.toNat 0
    · rw [if_pos h, tk1_cons, count_cons', grd_tk1 hk m _ hx' (by simpa using hl), getD_set]
      by_cases hxk : x = (k : Int)
      · have e : x.toNat = k := by omega
        rw [e] at h ⊢
        rw [if_pos ⟨rfl, by omega⟩]
        simp only [hxk, true_and, if_true]
        omega
      · rw [if_neg (by omega)]
        simp [hxk]
    · rw [if_neg h, tk1_cons, count_cons', grd_tk1 hk m t hx' hl]
      by_cases hxk : x = (k : Int)
      · have e : x.toNat = k := by omega
        rw [e] at h
        have z : t.getD k 0 = 0 := by omega
        rw [z, Nat.zero_min, Nat.zero_min, if_neg (by simp)]
      · simp [hxk]
theorem tkn_grd {L : Nat} {m : List Int} {t : List Nat} (hx : ∀ x ∈ m, 0 ≤ x) (ht : Tk t (cnt L m)) : tkn L m (grd L m t) = t := by
  have hl : t.length = L + 1 := by rw [ht.len, cnt_len]
  refine List.ext_getElem? fun k => ?_
  unfold tkn
  rw [List.getElem?_map]
  by_cases hk : k < L + 1
  · rw [List.getElem?_range hk]
    show some (tk1 (k : Int) m (grd L m t)) = _
    rw [grd_tk1 (by omega) m t hx hl]
    have e := ht.get k
    rw [cnt_get (by omega)] at e
    rw [Nat.min_eq_left e, List.getD_eq_getElem?_getD, List.getElem?_eq_getElem (by omega)]
    rfl
  · rw [List.getElem?_eq_none (by simp; omega), List.getElem?_eq_none (by omega)]
    rfl
/-! counts and marks tell the same -/
theorem sum_zip : ∀ (f : Nat → Nat) (n : Nat) (i : Nat), i < n → ((List.range n).map fun k => if i = k then f k else 0).sum = f i := by
  intro f n
  induction n with
  | zero => intro i h; omega
  | succ n ih =>
    intro i h
    rw [List.range_succ, List.map_append, List.sum_append]
    by_cases e : i = n
    · subst e
      have z : ((List.range i).map fun k => if i = k then f k else 0) = (List.range i).map fun _ => 0 := List.map_congr_left fun k hk => by
        have := List.mem_range.mp hk
        rw [if_neg (by omega)]
      rw [z, List.map_congr_left (g := fun _ => 0) (fun _ _ => rfl)]
      have z0 : ∀ j : Nat, ((List.range j).map fun _ => 0).sum = 0 := fun j => by
        induction j with
        | zero => rfl
        | succ j ihj =>
          rw [List.range_succ, List.map_append, List.sum_append, ihj]
          rfl
      rw [z0]
      simp
    · rw [ih i (by omega)]
      simp [e]
theorem sum_add (f g : Nat → Nat) : ∀ n : Nat, ((List.range n).map fun k => f k + g k).sum = ((List.range n).map f).sum + ((List.range n).map g).sum
  | 0 => rfl
  | n + 1 => by
    rw [List.range_succ, List.map_append, List.map_append, List.map_append, List.sum_append, List.sum_append, List.sum_append, sum_add f g n]
    simp
    omega
theorem sum_zero : ∀ n : Nat, ((List.range n).map fun _ => 0).sum = 0
  | 0 => rfl
  | n + 1 => by
    rw [List.range_succ, List.map_append, List.sum_append, sum_zero n]
    rfl
theorem sum_cnt (L : Nat) (f : Nat → Nat) : ∀ m : List Int, (∀ x ∈ m, 0 ≤ x) → ((List.range (L + 1)).map fun (k : Nat) => m.count (k : Int) * f k).sum = (m.map fun x => if x ≤ (L : Int) then f x.toNat else 0).sum
  | [], _ => by simp [sum_zero]
  | x :: m, h => by
    have ih := sum_cnt L f m fun y hy => h y (List.mem_cons_of_mem _ hy)
    have h0 := h x List.mem_cons_self
    have e : ((List.range (L + 1)).map fun (k : Nat) => (x :: m).count (k : Int) * f k) = (List.range (L + 1)).map fun (k : Nat) => m.count (k : Int) * f k + if x.toNat = k then f k else 0 := List.map_congr_left fun k _ => by
      rw [count_cons', Nat.add_mul]
      by_cases hx : x = (k : Int)
      · rw [if_pos hx, if_pos (by omega), Nat.one_mul]
      · rw [if_neg hx, if_neg (by omega), Nat.zero_mul]
    rw [e, sum_add, ih, List.map_cons, List.sum_cons]
    by_cases hx : x ≤ (L : Int)
    · rw [if_pos hx, sum_zip f (L + 1) x.toNat (by omega)]
      omega
    · rw [if_neg hx]
      have z : ((List.range (L + 1)).map fun k => if x.toNat = k then f k else 0) = (List.range (L + 1)).map fun _ => 0 := List.map_congr_left fun k hk => by
        have := List.mem_range.mp hk
        rw [if_neg (by omega)]
      rw [z, sum_zero]
      omega
theorem cnt_sum {L : Nat} {m : List Int} (h : ∀ x ∈ m, 0 ≤ x) : (cnt L m).sum = sta L m := by
  have e := sum_cnt L (fun _ => 1) m h
  simp only [Nat.mul_one] at e
  show ((List.range (L + 1)).map fun (k : Nat) => m.count (k : Int)).sum = _
  rw [e]
  unfold sta
  clear e h
  induction m with
  | nil => rfl
  | cons x m ih =>
    rw [List.map_cons, List.sum_cons, List.countP_cons, ih]
    simp
    omega
theorem wct_cnt {L : Nat} {m : List Int} (h : ∀ x ∈ m, 0 ≤ x) (q : Nat) : wct (cnt L m) q = Wt L m q := by
  unfold wct
  rw [cnt_len]
  have e : ((List.range (L + 1)).map fun k => (cnt L m).getD k 0 * wy (L + 1 - k) q) = (List.range (L + 1)).map fun (k : Nat) => m.count (k : Int) * (fun k => wy (L + 1 - k) q) k := List.map_congr_left fun k hk => by
    have := List.mem_range.mp hk
    rw [cnt_get (by omega)]
  rw [e, sum_cnt L (fun k => wy (L + 1 - k) q) m h]
  unfold Wt
  congr 1
  refine List.map_congr_left fun x hx => ?_
  have := h x hx
  by_cases hl : x ≤ (L : Int)
  · rw [if_pos hl]
    congr 1
    omega
  · rw [if_neg hl, show ((L : Int) + 1 - x).toNat = 0 by omega, wy_zero]
/-- marks that are marks -/
def Mks (L : Nat) (m : List Int) : Prop := ∀ x ∈ m, 0 ≤ x ∧ x ≤ (L : Int) + 1
theorem Mks.nn {L : Nat} {m : List Int} (h : Mks L m) : ∀ x ∈ m, 0 ≤ x := fun x hx => (h x hx).1
theorem stp_mk {L : Nat} {x : Int} (h : 0 ≤ x ∧ x ≤ (L : Int) + 1) (b : Bool) : 0 ≤ stp L x b ∧ stp L x b ≤ (L : Int) + 1 := by
  unfold stp
  split <;> omega
theorem Mks.aft {L : Nat} : ∀ {m : List Int}, Mks L m → ∀ (bs : List Bool) (y : Bool), Mks L (aft L m bs y)
  | [], _, bs, y => by
    intro x hx
    cases bs <;> simp [LA.aft] at hx
  | _ :: _, _, [], y => by
    intro x hx
    simp [LA.aft] at hx
  | a :: m, h, b :: bs, y => by
    intro x hx
    rw [aft_cons] at hx
    rcases List.mem_cons.mp hx with e | hx
    · subst e
      exact stp_mk (h a List.mem_cons_self) _
    · exact Mks.aft (fun z hz => h z (List.mem_cons_of_mem _ hz)) bs y x hx
theorem E_G {L : Nat} : ∀ (q : Nat) (m : List Int), Mks L m → (En q (cnt L m) = true ↔ Gq L q m)
  | 0, m, h => by
    show decide ((cnt L m).sum ≤ 1) = true ↔ sta L m ≤ 1
    rw [cnt_sum h.nn]
    simp
  | q + 1, m, h => by
    unfold En
    rw [Bool.or_eq_true, decide_eq_true_eq, cnt_sum h.nn, Bool.and_eq_true, List.any_eq_true]
    constructor
    · rintro (h1 | ⟨_, t, ht, h2⟩)
      · exact .inl h1
      · have tk := mem_prt.mp ht
        rw [Bool.and_eq_true] at h2
        refine .inr ⟨grd L m t, grd_len L m t, ?_, ?_⟩
        · rw [← E_G q _ (h.aft _ _), cnt_true (grd_len L m t) h.nn, tkn_grd h.nn tk]
          exact h2.1
        · rw [← E_G q _ (h.aft _ _), cnt_false (grd_len L m t) h.nn, tkn_grd h.nn tk]
          exact h2.2
    · intro g
      rcases id g with h1 | ⟨bs, hl, g1, g2⟩
      · exact .inl h1
      · refine .inr ⟨?_, tkn L m bs, mem_prt.mpr (tkn_tk m bs), ?_⟩
        · have v := G_vol g
          rw [← wct_cnt h.nn] at v
          unfold heavy
          rw [Bool.not_eq_true', decide_eq_false_iff_not]
          omega
        · rw [Bool.and_eq_true, ← cnt_true hl h.nn, ← cnt_false hl h.nn]
          exact ⟨(E_G q _ (h.aft _ _)).mpr g1, (E_G q _ (h.aft _ _)).mpr g2⟩
/-! ### the need -/
def needC (cs : List Nat) : Nat := ((List.range 25).find? fun q => En q cs).getD 25
theorem needC_at {cs : List Nat} {q : Nat} (hq : q ≤ 24) (h : En q cs = true) : En (needC cs) cs = true ∧ needC cs ≤ q ∧ ∀ j, j < needC cs → En j cs = false := by
  unfold needC
  cases e : (List.range 25).find? fun q => En q cs with
  | none =>
    rw [List.find?_eq_none] at e
    exact absurd h (e q (List.mem_range.mpr (by omega)))
  | some r =>
    rw [List.find?_range_eq_some] at e
    obtain ⟨h1, _, h3⟩ := e
    refine ⟨h1, ?_, fun j hj => ?_⟩
    · show r ≤ q
      by_cases hh : r ≤ q
      · exact hh
      · have := h3 q (by omega)
        simp [h] at this
    · have := h3 j hj
      simpa using this
def nd (L : Nat) (m : List Int) : Nat := needC (cnt L m)
structure MOk (L : Nat) (m : List Int) : Prop where
  lies : L ≤ 2
  len : m.length ≤ 8
  mks : Mks L m
theorem MOk.aft {L : Nat} {m : List Int} (h : MOk L m) {bs : List Bool} (hl : bs.length = m.length) (y : Bool) : MOk L (aft L m bs y) :=
  ⟨h.lies, by rw [aft_len hl]; exact h.len, h.mks.aft bs y⟩
theorem MOk.G24 {L : Nat} {m : List Int} (h : MOk L m) : Gq L 24 m := by
  refine G_ph 24 m ?_
  have e := ph_bound (L := (L : Int)) (k := 3) m h.mks.nn (by have := h.lies; omega)
  have := h.len
  omega
theorem nd_E {L : Nat} {m : List Int} (h : MOk L m) : En (nd L m) (cnt L m) = true ∧ nd L m ≤ 24 ∧ ∀ j, j < nd L m → En j (cnt L m) = false :=
  needC_at (Nat.le_refl 24) ((E_G 24 m h.mks).mpr h.G24)
theorem nd_G {L : Nat} {m : List Int} (h : MOk L m) : Gq L (nd L m) m := (E_G _ m h.mks).mp (nd_E h).1
theorem nd_le {L : Nat} {m : List Int} (h : MOk L m) {q : Nat} (g : Gq L q m) : nd L m ≤ q := by
  by_cases hq : q ≤ 24
  · exact (needC_at hq ((E_G q m h.mks).mpr g)).2.1
  · have := (nd_E h).2.1
    omega
theorem nd_zero {L : Nat} {m : List Int} (h : MOk L m) : nd L m = 0 ↔ sta L m ≤ 1 := by
  constructor
  · intro e
    have g := nd_G h
    rw [e] at g
    exact g
  · intro e
    have := nd_le h (q := 0) e
    omega
theorem nd_hard {L : Nat} {m : List Int} (h : MOk L m) {bs : List Bool} (hl : bs.length = m.length) : nd L m ≤ max (nd L (aft L m bs true)) (nd L (aft L m bs false)) + 1 := by
  refine nd_le h (.inr ⟨bs, hl, ?_, ?_⟩)
  · exact G_up (nd_G (h.aft hl true)) (by omega)
  · exact G_up (nd_G (h.aft hl false)) (by omega)
theorem nd_mono {L : Nat} {m n : List Int} (h : MOk L m) (h' : MOk L n) (e : LeL m n) : nd L n ≤ nd L m := nd_le h' (G_le e (nd_G h))
theorem nd_perm {L : Nat} {m n : List Int} (e : m.Perm n) : nd L m = nd L n := by
  unfold nd cnt
  congr 1
  exact List.map_congr_left fun k _ => e.count_eq _
theorem nd_vol {L : Nat} {m : List Int} (h : MOk L m) : Wt L m (nd L m) ≤ 2 ^ nd L m := G_vol (nd_G h)
/-- what split finds -/
def spl (q : Nat) (cs : List Nat) : Option (List Nat) := (prt cs).find? fun t => En q (mvd cs t) && En q (mvd cs (lft cs t))
theorem spl_E {q : Nat} {cs : List Nat} : En (q + 1) cs = (decide (cs.sum ≤ 1) || (!heavy cs (q + 1) && (spl q cs).isSome)) := by
  show (_ || (_ && _)) = _
  unfold spl
  rw [List.isSome_find?]
theorem spl_need {L : Nat} {m : List Int} (h : MOk L m) {q : Nat} (e : nd L m = q + 1) : ∃ t, spl q (cnt L m) = some t ∧ Tk t (cnt L m) ∧ nd L (aft L m (grd L m t) true) ≤ q ∧ nd L (aft L m (grd L m t) false) ≤ q := by
  have h1 := (nd_E h).1
  rw [e, spl_E, Bool.or_eq_true, decide_eq_true_eq, cnt_sum h.mks.nn, Bool.and_eq_true] at h1
  rcases h1 with h1 | ⟨_, h1⟩
  · have := (nd_zero h).mpr h1
    omega
  · obtain ⟨t, ht⟩ := Option.isSome_iff_exists.mp h1
    refine ⟨t, ht, ?_⟩
    have tk : Tk t (cnt L m) := mem_prt.mp (List.mem_of_find?_eq_some ht)
    have z := List.find?_some ht
    rw [Bool.and_eq_true] at z
    have o1 := h.aft (grd_len L m t) true
    have o2 := h.aft (grd_len L m t) false
    refine ⟨tk, nd_le o1 ((E_G q _ o1.mks).mp ?_), nd_le o2 ((E_G q _ o2.mks).mp ?_)⟩
    · rw [cnt_true (grd_len L m t) h.mks.nn, tkn_grd h.mks.nn tk]
      exact z.1
    · rw [cnt_false (grd_len L m t) h.mks.nn, tkn_grd h.mks.nn tk]
      exact z.2
end LA

namespace LA
open PySem PySem.Spec PyProof.Rows L2 Evl TL
/-! ### a def of the text; its promise kept -/
def Fn (K : PySem.W.Frag) (mg : Str → Option Value) (x : Str) (st : Stmt) (ps : List Str) : Prop :=
  ∃ f fd, Fun K x x st f fd ∧ mg x = some (.ref f) ∧ Binds K fd ps []
/-- the def's own data in what is kept of the top -/
def FdAt (K : PySem.W.Frag) (f : Addr) (fd : FuncData) : Prop := ∃ oc od osl, K.lookup f = some ⟨oc, od, .func fd, osl⟩
theorem Fun.at {K : PySem.W.Frag} {x q : Str} {st : Stmt} {f : Addr} {fd : FuncData} (F : Fun K x q st f fd) : FdAt K f fd := by
  obtain ⟨oc, od, _, _, _, _, _, _, osl, _, lk, _⟩ := F.ex
  exact ⟨oc, od, osl, lk⟩
theorem FdAt.one {K : PySem.W.Frag} {f : Addr} {fd fd' : FuncData} (h : FdAt K f fd) (h' : FdAt K f fd') : fd = fd' := by
  obtain ⟨_, _, _, e⟩ := h
  obtain ⟨_, _, _, e'⟩ := h'
  rw [e] at e'
  cases e'
  rfl
def Good (P : Program) (w : World) (K : PySem.W.Frag) (mg : Str → Option Value) (base : Heap) (CX : CXT) (k : Nat) (x : Str) (ps : List Str) (sp : Sp) : Prop :=
  ∃ f fd, FnOk P w K mg base CX k f fd ps sp ∧ mg x = some (.ref f) ∧ PySem.W.keepIn K (.ref f) = true ∧ Binds K fd ps [] ∧ FdAt K f fd
section
variable {P : Program} {w : World} {K : PySem.W.Frag} {mg : Str → Option Value} {base : Heap} {CX : CXT} {j k : Nat} {x : Str} {ps N : List Str} {sp : Sp} {st : Stmt}
theorem Good.mono (g : Good P w K mg base CX j x ps sp) (h : j ≤ k) : Good P w K mg base CX k x ps sp := by
  obtain ⟨f, fd, a, b, c, d⟩ := g
  exact ⟨f, fd, a.mono h, b, c, d⟩
theorem Good.of (F : Fn K mg x st ps) (S : FnScope N ps (defScope st)) (len : ∀ vs H Q E, sp vs H Q E → vs.length = ps.length)
    (body : ∀ (f : Addr) (cdv : Value) (A : Around) (outer : List Env) (s : Shared) (H : Hp) (vs : List V) (Q : VK) (E : XK), Room k (A.deeper (envOfC x (defScope st) s.heap.objs.size f cdv)) → sp vs H Q E →
      ∃ t, PSs (cxOf CX0 P w K mg base N x (defScope st) f cdv A outer s H E).nox (defBody st) t ∧ t { nx := fun _ H' => Q .non H', rt := Q } (start N vs) H) : Good P w K mg base CX0 (k + 1) x ps sp := by
  obtain ⟨f, fd, a, b, c⟩ := F
  exact ⟨f, fd, a.ok S len fun cdv A outer s H vs Q E hr h => body f cdv A outer s H vs Q E hr h, b, a.kp, c, Fun.at a⟩
end
section
variable {X : Cx}
/-- a call of such a def; nothing is let out -/
theorem cg {k : Nat} {x : Str} {ps : List Str} {sp : Sp} {e : Expr} {es : List Expr} {t : TA} {p pos : Pos} (g : Good X.prog X.w X.K X.mg X.base CX0 k x ps sp) (hr : Room k X.A) (ha : PA X (e :: es) t) (hg : Gl X x := by rfl)
    (hd : (x == ("__debug__" : Str)) = false := by decide) (h1 : starEach (e :: es) X.env = (false, eval e X.env) :: starEach es X.env := by rfl) (h2 : (backTo pos (starEach es X.env)).any (·.1) = false := by rfl) :
    PE X (.Call (.Name x p) (e :: es) [] pos) (tCall sp [] E0 t) := by
  obtain ⟨f, fd, a, b, c, d⟩ := g
  exact pe_call a hr hg b c d.1 .nil pass0 ha hd h1 h2
/-! ### built-ins, their readings by name -/
theorem c_len : CallR X (.builtin "len") (Evl.rLenS X.K) := call_len_seq
theorem c_list : CallR X (.type "list") (Evl.rListS X.K) := call_list_of
def rInt1 : List V → Hp → VK → Prop := fun xs H Q => (∃ i, xs = [.int i] ∧ Q (.int i) H) ∨ ∃ k, xs = [.bl k] ∧ Q (.int (if k then 1 else 0)) H
theorem c_int : CallR X (.type "int") rInt1 := call_int1
def rMin2 : List V → Hp → VK → Prop := fun xs H Q => ∃ i j, xs = [.int i, .int j] ∧ Q (.int (if j < i then j else i)) H
theorem c_min2 (hc : X.calm = true) : CallR X (.builtin "min") rMin2 := call_min2 hc
def rTupS (K : PySem.W.Frag) : List V → Hp → VK → Prop := fun xs H Q => ∃ p ys, xs = [.ref p] ∧ ((SqL K H p ys ∧ ∀ l, H l = none → Q (.ref l) (upd H l (.tup ys))) ∨ (SqT K H p ys ∧ Q (.ref p) H))
theorem c_tuple : CallR X (.type "tuple") (rTupS X.K) := call_tuple_of
def rSumT (K : PySem.W.Frag) : List V → Hp → VK → Prop := fun vs H Q => ∃ (a : Addr) (ns : List Int), vs = [V.ref a] ∧ SqT K H a (ns.map V.int) ∧ Q (.int ns.sum) H
theorem c_sumT (hc : X.calm = true) : CallR X (.builtin "sum") (rSumT X.K) := by
  intro pins s σ H vs us Q I r h
  obtain ⟨a, ns, rfl, hs, q⟩ := h
  obtain ⟨its, rv, hl, _⟩ := I.tuple hs
  rw [Vals.ref1 r]
  have hi := rv.ints
  obtain ⟨xs, hx⟩ := hi.allInts.items
  have hn : numsOf (intItems xs).toList = ns := by rw [← hx]; exact hi.numsOf
  rw [nums_intItems] at hn
  have ht : s.heap.IsTuple a (intItems xs) := by
    rw [← hx]
    exact hl
  refine PySem.W.ktm_sumG (I.ok.hd hc) ht fun h' tk t' hk => ⟨.int _, H, I.kept hk, ⟨t', ?_⟩, q⟩
  rw [preSum_eq, List.take_of_length_le (by simp), hn]
end
/-! ### the same, the written part by its own name (within a comprehension) -/
section
variable {X : Cx} {K : PySem.W.Frag}
theorem kix_list (h : X.K = K) : IxR X (rIxL K) := h ▸ ix_list
theorem kix_tup (h : X.K = K) : IxR X (rIxT K) := h ▸ ix_tup
theorem kc_len (h : X.K = K) : CallR X (.builtin "len") (Evl.rLenS K) := h ▸ c_len
theorem kc_list (h : X.K = K) : CallR X (.type "list") (Evl.rListS K) := h ▸ c_list
theorem kc_tuple (h : X.K = K) : CallR X (.type "tuple") (rTupS K) := h ▸ c_tuple
theorem kc_sum (h : X.K = K) (hc : X.calm = true) : CallR X (.builtin "sum") (rSum K) := h ▸ cr_sum hc
theorem kc_sumT (h : X.K = K) (hc : X.calm = true) : CallR X (.builtin "sum") (rSumT K) := h ▸ c_sumT hc
theorem kc_isi (h : X.K = K) : CallR X (.builtin "isinstance") (rIsi K) := h ▸ call_isi
theorem kop_in (h : X.K = K) : OpR X (compareOp .In) (rIn K false) := h ▸ op_in_seq
theorem kop_notIn (h : X.K = K) : OpR X (compareOp .NotIn) (rIn K true) := h ▸ op_notIn_seq
theorem kop_catA (h : X.K = K) : OpR X (binaryOp .Add) (rCatA K) := h ▸ op_catA
theorem kmt_count (h : X.K = K) : MtR X "list.count" (rCntI K) := h ▸ mt_lcount
theorem ksl_list (h : X.K = K) : SlR X (rSlL K) := h ▸ sl_list
theorem kpi_list {tg l : Expr} {tl : TE} (h : X.K = K) (hl : PE X l tl) : PI X tg l (iList K tl) := h ▸ pi_list hl
theorem kpi_tup {tg l : Expr} {tl : TE} (h : X.K = K) (hl : PE X l tl) : PI X tg l (iTup K tl) := h ▸ pi_tup hl
theorem kpe_bm {T : String} {nm : Str} {o e : Expr} {es : List Expr} {to : TE} {t : TA} {r : V → List V → Hp → VK → Prop} {cpos apos : Pos} (h : X.K = K) (hp : PE X (.Call (.Attribute o nm apos) (e :: es) [] cpos) (tBM X.K T r to t)) : PE X (.Call (.Attribute o nm apos) (e :: es) [] cpos) (tBM K T r to t) := h ▸ hp
theorem kpg_tup {es : List Expr} {k : Nat} {t : TGs} {n : Nat} {pos : Pos} (hk : X.K = K) (hc : X.calm = true) (h : PGs X es t)
    (hn : (assignEach es X.env).length = n := by rfl) (hst : (assignEach es X.env).findIdx? (·.1) = none := by rfl) : PG X (.Tuple es k pos) (gTup K n t) := hk ▸ pg_tup hc h hn hst
end
/-! ### what they evaluate to -/
section
variable {K : PySem.W.Frag} {σ : L2.St} {H H' : Hp} {ta tb te : TE} {z v : V}
theorem ev_lenT {p : Addr} {xs : List V} (ha : Ev ta σ H (.ref p)) (h : SqT K H p xs) : Ev (tCB (Evl.rLenS K) (tCons ta tNil)) σ H (.int (xs.length : Int)) := fun H1 e Q q =>
  ha H1 e _ fun H2 e2 => ⟨p, xs, rfl, Or.inr (ex_t (e.trans e2) h), q H2 e2⟩
theorem ev_min2 {i j : Int} (ha : Ev ta σ H (.int i)) (hb : Ev tb σ H (.int j)) : Ev (tCB rMin2 (tCons ta (tCons tb tNil))) σ H (.int (if j < i then j else i)) := fun H1 e Q q =>
  ha H1 e _ fun H2 e2 => hb H2 (e.trans e2) _ fun H3 e3 => ⟨i, j, rfl, q H3 (e2.trans e3)⟩
theorem ev_intB {b : Bool} (ha : Ev ta σ H (.bl b)) : Ev (tCB rInt1 (tCons ta tNil)) σ H (.int (if b then 1 else 0)) := fun H1 e Q q =>
  ha H1 e _ fun H2 e2 => .inr ⟨b, rfl, q H2 e2⟩
theorem ev_sumL {ns : List Int} (ha : EvL ta σ H (ns.map V.int)) : Ev (tCB (rSum K) (tCons ta tNil)) σ H (.int ns.sum) := fun H1 e Q q =>
  ha H1 e _ fun p H2 _ e2 h2 => ⟨p, ns, rfl, sq_of h2, q H2 e2⟩
theorem ev_sumT {p : Addr} {ns : List Int} (ha : Ev ta σ H (.ref p)) (h : SqT K H p (ns.map V.int)) : Ev (tCB (rSumT K) (tCons ta tNil)) σ H (.int ns.sum) := fun H1 e Q q =>
  ha H1 e _ fun H2 e2 => ⟨p, ns, rfl, ex_t (e.trans e2) h, q H2 e2⟩
theorem ev_cnt {p : Addr} {ns : List Int} {k : Int} (ha : Ev ta σ H (.ref p)) (hb : Ev tb σ H (.int k)) (h : SqL K H p (ns.map V.int)) : Ev (tBM K "list" (rCntI K) ta (tCons tb tNil)) σ H (.int (ns.count k : Nat)) := fun H1 e Q q =>
  ha H1 e _ fun H2 e2 => ⟨Or.inl ⟨rfl, _, ex_l (e.trans e2) h⟩, hb H2 (e.trans e2) _ fun H3 e3 => ⟨p, ns, k, rfl, rfl, ex_l ((e.trans e2).trans e3) h, q H3 (e2.trans e3)⟩⟩
/-- tuple([..]) of a new list -/
theorem eu_tup {xs : List V} (ha : EvL ta σ H xs) : EvU (tCB (rTupS K) (tCons ta tNil)) σ H xs := fun H1 e Q q =>
  ha H1 e _ fun p H2 hp e2 h2 => ⟨p, xs, rfl, Or.inl ⟨sq_of h2, fun l hl => q l _ (fresh_back e2 hl) (e2.trans (Ex.new hl)) upd_same⟩⟩
/-- list(t) of a tuple -/
theorem el_listT {p : Addr} {xs : List V} (ha : Ev ta σ H (.ref p)) (h : SqT K H p xs) : EvL (tCB (Evl.rListS K) (tCons ta tNil)) σ H xs := fun H1 e Q q =>
  ha H1 e _ fun H2 e2 => ⟨p, xs, rfl, Or.inr (ex_t (e.trans e2) h), fun l hl => q l _ (fresh_back e2 hl) (e2.trans (Ex.new hl)) upd_same⟩
/-- a new tuple handed back by a def -/
def SpU (sp : Sp) (vs : List V) (H : Hp) (xs : List V) : Prop := ∀ H1, Ex H H1 → ∀ Q : VK, (∀ p H2, H1 p = none → Ex H1 H2 → H2 p = some (.tup xs) → Q (.ref p) H2) → ∀ E : XK, sp vs H1 Q E
def RetU (xs : List V) (H : Hp) (Q : VK) : Prop := ∀ p H2, H p = none → Ex H H2 → H2 p = some (.tup xs) → Q (.ref p) H2
theorem eu_call {sp : Sp} {dvs vs xs : List V} {E : XK} {ta : TA} (h : EvA ta σ H vs) (hs : SpU sp (vs ++ dvs) H xs) : EvU (tCall sp dvs E ta) σ H xs := fun H1 e Q q =>
  h H1 e _ fun H2 e2 => hs H2 (e.trans e2) Q (fun p H3 hp e3 h3 => q p H3 (fresh_back e2 hp) (e2.trans e3) h3) E
/-- isinstance(x, T), T a built-in -/
theorem ev_isi {x : V} {T : String} {n : String} {b : Bool} (ha : Ev ta σ H x) (ty : ∀ H1, Ex H H1 → TyX K H1 x (.type T)) (h : kitB T n = some b) : Ev (tCB (rIsi K) (tCons ta (tCons (tC (.ty n)) tNil))) σ H (.bl b) := fun H1 e Q q =>
  ha H1 e _ fun H2 e2 => ⟨x, .ty n, .type T, .type n, b, rfl, .ty n, ty H2 (e.trans e2), kit_ty h, q H2 e2⟩
theorem rv_eqI {i j : Int} : RV rEq (.int i) (.int j) H (.bl (decide (i = j))) := fun H1 _ _ q => ⟨rfl, by
  have e : decide (V.int i = V.int j) = decide (i = j) := by
    rw [Bool.eq_iff_iff]
    simp
  rw [e]
  exact q H1 (Ex.refl H1)⟩
theorem rv_neI {i j : Int} : RV rNe (.int i) (.int j) H (.bl (!decide (i = j))) := fun H1 _ _ q => ⟨rfl, by
  have e : decide (V.int i = V.int j) = decide (i = j) := by
    rw [Bool.eq_iff_iff]
    simp
  rw [e]
  exact q H1 (Ex.refl H1)⟩
theorem rv_eqB {i j : Bool} : RV rEq (.bl i) (.bl j) H (.bl (i == j)) := fun H1 _ _ q => ⟨rfl, by
  rw [dec_bl]
  exact q H1 (Ex.refl H1)⟩
theorem rv_neB {i j : Bool} : RV rNe (.bl i) (.bl j) H (.bl (i != j)) := fun H1 _ _ q => ⟨rfl, by
  rw [dec_bl]
  exact q H1 (Ex.refl H1)⟩
theorem rv_isN {x : V} : RV (fun x y H Q => y = .non ∧ Q (.bl (decide (x = .non))) H) x .non H (.bl (decide (x = .non))) := fun H1 _ _ q => ⟨rfl, q H1 (Ex.refl H1)⟩
theorem rv_notN {x : V} : RV (fun x y H Q => y = .non ∧ Q (.bl (!decide (x = .non))) H) x .non H (.bl (!decide (x = .non))) := fun H1 _ _ q => ⟨rfl, q H1 (Ex.refl H1)⟩
end
/-! ### a thing among things -/
def hasI (q : List Int) (k : Int) : Bool := decide (k ∈ q)
theorem inV_int (q : List Int) (k : Int) : inV (.int k) (q.map V.int) = hasI q k := by
  unfold inV hasI
  rw [Bool.eq_iff_iff, List.any_eq_true, decide_eq_true_eq]
  constructor
  · rintro ⟨v, hv, e⟩
    obtain ⟨i, hi, rfl⟩ := List.mem_map.mp hv
    have e2 : i = k := by simpa [eqV] using e
    rw [← e2]
    exact hi
  · intro h
    exact ⟨.int k, List.mem_map.mpr ⟨k, h, rfl⟩, by simp [eqV]⟩
theorem flat_int (q : List Int) : (q.map V.int).all flatV = true := by
  rw [List.all_eq_true]
  intro v hv
  obtain ⟨i, _, rfl⟩ := List.mem_map.mp hv
  rfl
theorem at_int {ns : List Int} {i : Nat} (h : i < ns.length) : atI (ns.map V.int) (i : Int) = some (.int (ns.getD i 0)) := by
  refine atI_nat ?_
  rw [List.getElem?_map, List.getElem?_eq_getElem h, List.getD_eq_getElem?_getD, List.getElem?_eq_getElem h]
  rfl
theorem len_map {α β : Type} (f : α → β) (l : List α) : (l.map f).length = l.length := List.length_map ..
theorem given_all (n : Nat) (v : Nat → V) : given n (fun _ => true) v = (List.range n).map v := by
  unfold given
  rw [List.filter_eq_self.mpr (by simp)]
/-- a cell of the script -/
def cl (ns : List Int) (k : Int) : Int := ns.getD k.toNat 0
/-! ### the marks behind an answer, as the program counts them -/
def bhv (L : Int) (m q : List Int) (y : Bool) (i : Nat) : Int := if m.getD i 0 + (if (hasI q (i : Int) != y) = true then 1 else 0) < L + 1 then m.getD i 0 + (if (hasI q (i : Int) != y) = true then 1 else 0) else L + 1
def beh (L : Int) (m q : List Int) (y : Bool) : List Int := (List.range m.length).map (bhv L m q y)
section
variable {K : PySem.W.Frag} {σ : L2.St} {H H' : Hp} {ta tb te : TE} {t : TT} {z v : V}
theorem et_yes : EvT tYes σ H true := fun H1 _ _ q => q H1 (Ex.refl H1)
/-- [e for i in range(n)], ints -/
theorem el_cI {ta : TA} {j : Nat} {vs : List Nat} {n : Int} (g : Nat → Int) (h : EvA ta σ H [.int n]) (hn : 0 ≤ n ∧ n ≤ 40000) (hw : ∀ x, wipe ((wipe σ vs).set j (some x)) vs = wipe σ vs)
    (he : ∀ (i : Nat) H1, Ex H H1 → (i : Int) < n → Ev te ((wipe σ vs).set j (some (.int (i : Int)))) H1 (.int (g i))) : EvL (tLc (iRng1 ta) (gName j) tYes te vs) σ H (((List.range n.toNat).map g).map V.int) := by
  have e := el_lcR1 (t := tYes) (te := te) (fun _ => true) (fun i => V.int (g i)) h hn hw (fun _ _ _ _ => et_yes) (fun i H1 e1 hi _ => he i H1 e1 hi)
  rw [given_all] at e
  rw [List.map_map]
  exact e
/-- [i for i in range(n) if ..] -/
theorem el_cF {ta : TA} {j : Nat} {vs : List Nat} {n : Int} (f : Nat → Bool) (h : EvA ta σ H [.int n]) (hn : 0 ≤ n ∧ n ≤ 40000) (hw : ∀ x, wipe ((wipe σ vs).set j (some x)) vs = wipe σ vs)
    (ht : ∀ (i : Nat) H1, Ex H H1 → (i : Int) < n → EvT t ((wipe σ vs).set j (some (.int (i : Int)))) H1 (f i))
    (he : ∀ (i : Nat) H1, Ex H H1 → (i : Int) < n → Ev te ((wipe σ vs).set j (some (.int (i : Int)))) H1 (.int (i : Int))) : EvL (tLc (iRng1 ta) (gName j) t te vs) σ H ((((List.range n.toNat).filter f).map fun (i : Nat) => (i : Int)).map V.int) := by
  have e := el_lcR1 (t := t) (te := te) f (fun i => V.int (i : Int)) h hn hw ht (fun i H1 e1 hi _ => he i H1 e1 hi)
  rw [List.map_map]
  exact e
/-- [e for x in a list of ints] -/
theorem el_cL {a : Addr} {ns : List Int} {tl : TE} {j : Nat} {vs : List Nat} (g : Int → Int) (h : Ev tl σ H (.ref a)) (hx : SqL K H a (ns.map V.int)) (hz : ns.length ≤ 40000) (hw : ∀ x, wipe ((wipe σ vs).set j (some x)) vs = wipe σ vs)
    (he : ∀ (x : Int) H1, Ex H H1 → x ∈ ns → Ev te ((wipe σ vs).set j (some (.int x))) H1 (.int (g x))) : EvL (tLc (iList K tl) (gName j) tYes te vs) σ H ((ns.map g).map V.int) := by
  have e := el_lcL (K := K) (t := tYes) (te := te) (xs := ns.map V.int) (fun _ => true) (fun i => V.int (g (ns.getD i 0))) h hx (by rw [len_map]; exact hz) hw (fun _ _ _ _ _ => et_yes) (fun i x H1 e1 hi _ => by
    rw [List.getElem?_map] at hi
    cases q : ns[i]? with
    | none =>
      rw [q] at hi
      cases hi
    | some y =>
      rw [q] at hi
      have e2 : x = V.int y := (Option.some.inj hi).symm
      subst e2
      have e3 : ns.getD i 0 = y := by rw [List.getD_eq_getElem?_getD, q] <;> rfl
      rw [e3]
      exact he y H1 e1 (List.mem_of_getElem? q))
  rw [given_all, len_map] at e
  have e4 : ((List.range ns.length).map fun i => V.int (g (ns.getD i 0))) = (ns.map g).map V.int := by
    refine List.ext_getElem? fun i => ?_
    rw [List.getElem?_map, List.getElem?_map, List.getElem?_map]
    by_cases hi : i < ns.length
    · have e5 : ns.getD i 0 = ns[i] := by rw [List.getD_eq_getElem?_getD, List.getElem?_eq_getElem hi] <;> rfl
      rw [List.getElem?_range hi, List.getElem?_eq_getElem hi]
      show some (V.int (g (ns.getD i 0))) = some (V.int (g ns[i]))
      rw [e5]
    · rw [List.getElem?_eq_none (by simp; omega), List.getElem?_eq_none (by omega)]
      rfl
  rw [← e4]
  exact e
end
/-! ### a question's things -/
def Rise : Int → List Int → Int → Prop
  | _, [], _ => True
  | b, x :: r, n => b < x ∧ x < n ∧ Rise x r n
/-- the things of a question, for each thing whether it is asked -/
def qb (q : List Int) (n : Nat) : List Bool := (List.range n).map fun (i : Nat) => hasI q (i : Int)
theorem qb_len (q : List Int) (n : Nat) : (qb q n).length = n := by simp [qb]
theorem zip_range {α : Type} (f : Int → α → Int) (g : Nat → α) (m : List Int) : List.zipWith f m ((List.range m.length).map g) = (List.range m.length).map fun i => f (m.getD i 0) (g i) := by
  refine List.ext_getElem? fun i => ?_
  rw [List.getElem?_zipWith, List.getElem?_map, List.getElem?_map]
  by_cases hi : i < m.length
  · have e5 : m.getD i 0 = m[i] := by rw [List.getD_eq_getElem?_getD, List.getElem?_eq_getElem hi] <;> rfl
    rw [List.getElem?_range hi, List.getElem?_eq_getElem hi]
    show some (f m[i] (g i)) = some (f (m.getD i 0) (g i))
    rw [e5]
  · rw [List.getElem?_eq_none (l := List.range m.length) (by simp; omega), List.getElem?_eq_none (by omega)]
    rfl
def afq (L : Int) (m q : List Int) (y : Bool) : List Int := (List.range m.length).map fun (i : Nat) => stp L (m.getD i 0) (hasI q (i : Int) == y)
theorem afq_aft (L : Int) (m q : List Int) (y : Bool) : afq L m q y = aft L m (qb q m.length) y := by
  unfold afq aft qb
  rw [zip_range]
theorem afq_len (L : Int) (m q : List Int) (y : Bool) : (afq L m q y).length = m.length := by simp [afq]
theorem mks_getD {L : Nat} {m : List Int} (h : Mks L m) {i : Nat} (hi : i < m.length) : 0 ≤ m.getD i 0 ∧ m.getD i 0 ≤ (L : Int) + 1 := by
  rw [List.getD_eq_getElem?_getD, List.getElem?_eq_getElem hi]
  exact h _ (List.getElem_mem hi)
theorem beh_afq {L : Nat} {m : List Int} (h : Mks L m) (q : List Int) (y : Bool) : beh (L : Int) m q y = afq (L : Int) m q y := by
  unfold beh afq
  refine List.map_congr_left fun i hi => ?_
  have hx := mks_getD h (List.mem_range.mp hi)
  unfold bhv stp
  generalize m.getD i 0 = x at *
  cases hasI q (i : Int) <;> cases y <;> simp <;> grind
/-- the things that stand -/
def stl (L : Int) (m : List Int) : List Int := ((List.range m.length).filter fun i => decide (m.getD i 0 ≤ L)).map fun (i : Nat) => (i : Int)
/-- the things that a number tells -/
def askL (c : Int) (n : Nat) : List Int := ((List.range n).filter fun i => decide (c / 2 ^ i % 2 = 1)).map fun (i : Nat) => (i : Int)
theorem askL_succ (c : Int) (n : Nat) : askL c (n + 1) = if c / 2 ^ n % 2 = 1 then askL c n ++ [(n : Int)] else askL c n := by
  unfold askL
  rw [List.range_succ, List.filter_append, List.map_append]
  by_cases h : c / 2 ^ n % 2 = 1
  · simp [h]
  · simp [h]
theorem rise_snoc : ∀ {q : List Int} {b n k : Int}, Rise b q n → b < k → n ≤ k → (∀ x ∈ q, x < k) → Rise b (q ++ [k]) (k + 1)
  | [], b, n, k, _, hb, _, _ => ⟨hb, by omega, trivial⟩
  | x :: q, b, n, k, ⟨h1, h2, h3⟩, hb, hn, hx => ⟨h1, by omega, rise_snoc h3 (hx x List.mem_cons_self) hn fun y hy => hx y (List.mem_cons_of_mem _ hy)⟩
theorem rise_up : ∀ {q : List Int} {b n k : Int}, Rise b q n → n ≤ k → Rise b q k
  | [], _, _, _, _, _ => trivial
  | _ :: _, _, _, _, ⟨h1, h2, h3⟩, h => ⟨h1, by omega, rise_up h3 h⟩
theorem rise_mem : ∀ {q : List Int} {b n : Int}, Rise b q n → ∀ x ∈ q, b < x ∧ x < n
  | y :: q, b, n, ⟨h1, h2, h3⟩, x, hx => by
    rcases List.mem_cons.mp hx with e | hx
    · subst e
      exact ⟨h1, h2⟩
    · have := rise_mem h3 x hx
      omega
theorem askL_rise (c : Int) : ∀ n : Nat, Rise (-1) (askL c n) (n : Int)
  | 0 => trivial
  | n + 1 => by
    rw [askL_succ]
    have ih := askL_rise c n
    split
    · exact rise_snoc ih (by omega) (Int.le_refl _) fun x hx => (rise_mem ih x hx).2
    · exact rise_up ih (by omega)
theorem ediv_pow (c : Int) (n : Nat) : c / 2 ^ n / 2 = c / 2 ^ (n + 1) := by
  rw [Int.pow_succ, Int.ediv_ediv_of_nonneg (Int.pow_nonneg (by omega))]
/-! ### lists as data, for == -/
def dI (ns : List Int) : PyData := .list (ns.map PyData.int)
theorem lay_ints : ∀ ns : List Int, PyData.canLayAll0 (ns.map PyData.int) = true
  | [] => rfl
  | x :: r => by
    rw [List.map_cons, PyData.canLayAll0, lay_ints r]
    rfl
theorem dep_ints : ∀ ns : List Int, PyData.depthAll (ns.map PyData.int) = 0
  | [] => rfl
  | x :: r => by
    rw [List.map_cons, PyData.depthAll, dep_ints r]
    rfl
theorem lay_dI (ns : List Int) : (dI ns).canLay0 = true := by
  unfold dI
  rw [PyData.canLay0]
  exact lay_ints ns
theorem dep_dI (ns : List Int) : (dI ns).depth = 1 := by
  unfold dI
  rw [PyData.depth, dep_ints]
theorem lay_lists : ∀ l : List (List Int), PyData.canLayAll0 (l.map dI) = true
  | [] => rfl
  | x :: r => by
    rw [List.map_cons, PyData.canLayAll0, lay_lists r, lay_dI]
    rfl
theorem dep_lists : ∀ l : List (List Int), PyData.depthAll (l.map dI) ≤ 1
  | [] => Nat.zero_le _
  | x :: r => by
    rw [List.map_cons, PyData.depthAll, dep_dI]
    have := dep_lists r
    omega
theorem shaped_dI (ns : List Int) : SeqAt.shaped (dI ns) = true := by
  unfold SeqAt.shaped
  rw [lay_dI, dep_dI]
  rfl
theorem shaped_lists (l : List (List Int)) : SeqAt.shaped (.list (l.map dI)) = true := by
  unfold SeqAt.shaped
  rw [PyData.canLay0, lay_lists, PyData.depth]
  have := dep_lists l
  rw [Bool.true_and, decide_eq_true_eq]
  omega
theorem eqv_dI (ns : List Int) : PyData.eqv (dI ns) (dI ns) = true := SeqAt.eqv_refl _ (lay_dI ns)
theorem eqv_lists (l : List (List Int)) : PyData.eqv (.list (l.map dI)) (.list (l.map dI)) = true := SeqAt.eqv_refl _ (by
  rw [PyData.canLay0]
  exact lay_lists l)
section
variable {K : PySem.W.Frag} {H H' : Hp}
theorem dpAll_ints : ∀ ns : List Int, DpAll K H (ns.map V.int) (ns.map PyData.int)
  | [] => .nil
  | x :: r => .cons (.int x) (dpAll_ints r)
theorem dp_ints {a : Addr} {ns : List Int} (h : SqL K H a (ns.map V.int)) : Dp K H (.ref a) (dI ns) := .lst h (dpAll_ints ns)
/-- lists of such lists, each at its address -/
inductive ListsAt (K : PySem.W.Frag) (H : Hp) : List Addr → List (List Int) → Prop
  | nil : ListsAt K H [] []
  | cons {a : Addr} {ns : List Int} {as : List Addr} {l : List (List Int)} : SqL K H a (ns.map V.int) → ListsAt K H as l → ListsAt K H (a :: as) (ns :: l)
theorem ListsAt.dp {as : List Addr} {l : List (List Int)} (h : ListsAt K H as l) : DpAll K H (as.map V.ref) (l.map dI) := by
  induction h with
  | nil => exact .nil
  | cons h _ ih => exact .cons (dp_ints h) ih
theorem ListsAt.ex {as : List Addr} {l : List (List Int)} (h : ListsAt K H as l) (e : Ex H H') : ListsAt K H' as l := by
  induction h with
  | nil => exact .nil
  | cons h _ ih => exact .cons (ex_l e h) ih
/-- != of equal lists of lists is False -/
theorem rv_neSame {a b : Addr} {as bs : List Addr} {l : List (List Int)} (ha : SqL K H a (as.map V.ref)) (hb : SqL K H b (bs.map V.ref)) (la : ListsAt K H as l) (lb : ListsAt K H bs l) : RV (rNeD K) (.ref a) (.ref b) H (.bl false) := fun H1 e Q q => by
  refine ⟨.list (l.map dI), .list (l.map dI), .lst (ex_l e ha) (la.ex e).dp, .lst (ex_l e hb) (lb.ex e).dp, shaped_lists l, shaped_lists l, ?_⟩
  rw [eqv_lists]
  exact q H1 (Ex.refl H1)
/-- of lists of ints -/
theorem rv_neSameI {a b : Addr} {ns : List Int} (ha : SqL K H a (ns.map V.int)) (hb : SqL K H b (ns.map V.int)) : RV (rNeD K) (.ref a) (.ref b) H (.bl false) := fun H1 e Q q => by
  refine ⟨dI ns, dI ns, dp_ints (ex_l e ha), dp_ints (ex_l e hb), shaped_dI ns, shaped_dI ns, ?_⟩
  rw [eqv_dI]
  exact q H1 (Ex.refl H1)
theorem rv_eqSameI {a b : Addr} {ns : List Int} (ha : SqL K H a (ns.map V.int)) (hb : SqL K H b (ns.map V.int)) : RV (rEqD K) (.ref a) (.ref b) H (.bl true) := fun H1 e Q q => by
  refine ⟨dI ns, dI ns, dp_ints (ex_l e ha), dp_ints (ex_l e hb), shaped_dI ns, shaped_dI ns, ?_⟩
  rw [eqv_dI]
  exact q H1 (Ex.refl H1)
end
/-! ### heaps that keep all but one -/
theorem ex_upd {H H' : Hp} {p : Addr} {o : HO} (e : Ex H H') (h : H p = none) : Ex H (upd H' p o) := Ex.mut e h
theorem upd_other {H : Hp} {a b : Addr} {o u : HO} (h : H b = some u) (n : b ≠ a) : upd H a o b = some u := by
  rw [upd_ne n]
  exact h
section
variable {K : PySem.W.Frag} {σ : L2.St} {H H' : Hp} {ta tb tc : TE} {x y z : V}
/-- f(x, a new list) -/
theorem ev_call1L {sp : Sp} {E : XK} {xs : List V} (ha : Ev ta σ H x) (hb : EvL tb σ H xs) (hs : ∀ p H1, Ex H H1 → H1 p = some (.lst xs) → SpV sp [x, .ref p] H1 z) : Ev (tCall sp [] E (tCons ta (tCons tb tNil))) σ H z := fun H1 e Q q =>
  ha H1 e _ fun H2 e2 => hb H2 (e.trans e2) _ fun p H3 _ e3 h3 => hs p H3 ((e.trans e2).trans e3) h3 H3 (Ex.refl H3) Q (fun H4 e4 => q H4 ((e2.trans e3).trans e4)) E
/-- f(a new list, y) -/
theorem ev_callL1 {sp : Sp} {E : XK} {xs : List V} (ha : EvL ta σ H xs) (hb : ∀ H1, Ex H H1 → Ev tb σ H1 y) (hs : ∀ p H1, Ex H H1 → H1 p = some (.lst xs) → SpV sp [.ref p, y] H1 z) : Ev (tCall sp [] E (tCons ta (tCons tb tNil))) σ H z := fun H1 e Q q =>
  ha H1 e _ fun p H2 _ e2 h2 => hb H2 (e.trans e2) H2 (Ex.refl H2) _ fun H3 e3 => hs p H3 ((e.trans e2).trans e3) (e3 p _ h2) H3 (Ex.refl H3) Q (fun H4 e4 => q H4 ((e2.trans e3).trans e4)) E
/-- f(a new list, y, z') -/
theorem ev_callL2 {sp : Sp} {E : XK} {xs : List V} {y2 : V} (ha : EvL ta σ H xs) (hb : ∀ H1, Ex H H1 → Ev tb σ H1 y) (hc : ∀ H1, Ex H H1 → Ev tc σ H1 y2) (hs : ∀ p H1, Ex H H1 → H1 p = some (.lst xs) → SpV sp [.ref p, y, y2] H1 z) : Ev (tCall sp [] E (tCons ta (tCons tb (tCons tc tNil)))) σ H z := fun H1 e Q q =>
  ha H1 e _ fun p H2 _ e2 h2 => hb H2 (e.trans e2) H2 (Ex.refl H2) _ fun H3 e3 => hc H3 ((e.trans e2).trans e3) H3 (Ex.refl H3) _ fun H4 e4 => hs p H4 (((e.trans e2).trans e3).trans e4) (e4 p _ (e3 p _ h2)) H4 (Ex.refl H4) Q (fun H5 e5 => q H5 (((e2.trans e3).trans e4).trans e5)) E
end
theorem map_zero (m : List Int) : (m.map fun _ => (0 : Int)) = List.replicate m.length 0 := List.map_const' ..
/-! ### talks -/
inductive TalkAt (K : PySem.W.Frag) (H : Hp) : List Addr → List (List Int × Bool) → Prop
  | nil : TalkAt K H [] []
  | cons {t b : Addr} {q : List Int} {y : Bool} {ts : List Addr} {l : List (List Int × Bool)} : SqT K H t [.ref b, .bl y] → SqL K H b (q.map V.int) → TalkAt K H ts l → TalkAt K H (t :: ts) ((q, y) :: l)
section
variable {K : PySem.W.Frag} {H H' : Hp}
theorem TalkAt.ex {ts : List Addr} {l : List (List Int × Bool)} (h : TalkAt K H ts l) (e : Ex H H') : TalkAt K H' ts l := by
  induction h with
  | nil => exact .nil
  | cons h1 h2 _ ih => exact .cons (ex_t e h1) (ex_l e h2) ih
theorem TalkAt.len {ts : List Addr} {l : List (List Int × Bool)} (h : TalkAt K H ts l) : ts.length = l.length := by
  induction h with
  | nil => rfl
  | cons _ _ _ ih => simp [ih]
theorem TalkAt.get {ts : List Addr} {l : List (List Int × Bool)} (h : TalkAt K H ts l) : ∀ {i : Nat} {t : Addr}, ts[i]? = some t → ∃ q y b, l[i]? = some (q, y) ∧ SqT K H t [.ref b, .bl y] ∧ SqL K H b (q.map V.int) := by
  induction h with
  | nil => intro i t e; simp at e
  | @cons t b q y ts l h1 h2 _ ih =>
    intro i u e
    cases i with
    | zero =>
      obtain rfl : t = u := Option.some.inj e
      exact ⟨q, y, b, rfl, h1, h2⟩
    | succ i => exact ih e
theorem TalkAt.snoc {ts : List Addr} {l : List (List Int × Bool)} (h : TalkAt K H ts l) {t b : Addr} {q : List Int} {y : Bool} (h1 : SqT K H t [.ref b, .bl y]) (h2 : SqL K H b (q.map V.int)) : TalkAt K H (ts ++ [t]) (l ++ [(q, y)]) := by
  induction h with
  | nil => exact .cons h1 h2 .nil
  | cons g1 g2 _ ih => exact .cons g1 g2 ih
theorem TalkAt.take {ts : List Addr} {l : List (List Int × Bool)} (h : TalkAt K H ts l) : ∀ n : Nat, TalkAt K H (ts.take n) (l.take n) := by
  induction h with
  | nil => intro n; simp; exact .nil
  | cons g1 g2 _ ih =>
    intro n
    cases n with
    | zero => exact .nil
    | succ n => exact .cons g1 g2 (ih n)
def dTalk (l : List (List Int × Bool)) : List PyData := l.map fun p => .tuple [dI p.1, .bool p.2]
theorem TalkAt.dp {ts : List Addr} {l : List (List Int × Bool)} (h : TalkAt K H ts l) : DpAll K H (ts.map V.ref) (dTalk l) := by
  induction h with
  | nil => exact .nil
  | cons h1 h2 _ ih => exact .cons (.tup h1 (.cons (dp_ints h2) (.cons (.bl _) .nil))) ih
end
theorem lay_talk : ∀ l : List (List Int × Bool), PyData.canLayAll0 (dTalk l) = true
  | [] => rfl
  | x :: r => by
    show PyData.canLayAll0 (PyData.tuple [dI x.1, .bool x.2] :: dTalk r) = true
    rw [PyData.canLayAll0, lay_talk r, PyData.canLay0, PyData.canLayAll0, lay_dI, PyData.canLayAll0, PyData.canLay0]
    rfl
theorem dep_talk : ∀ l : List (List Int × Bool), PyData.depthAll (dTalk l) ≤ 2
  | [] => Nat.zero_le _
  | x :: r => by
    show PyData.depthAll (PyData.tuple [dI x.1, .bool x.2] :: dTalk r) ≤ 2
    have := dep_talk r
    rw [PyData.depthAll, PyData.depth, PyData.depthAll, dep_dI, PyData.depthAll, PyData.depth, PyData.depthAll]
    omega
theorem rv_neSameT {K : PySem.W.Frag} {H : Hp} {a b : Addr} {as bs : List Addr} {l : List (List Int × Bool)} (ha : SqL K H a (as.map V.ref)) (hb : SqL K H b (bs.map V.ref)) (la : TalkAt K H as l) (lb : TalkAt K H bs l) : RV (rNeD K) (.ref a) (.ref b) H (.bl false) := fun H1 e Q q => by
  have sh : SeqAt.shaped (.list (dTalk l)) = true := by
    unfold SeqAt.shaped
    rw [PyData.canLay0, lay_talk, PyData.depth]
    have := dep_talk l
    rw [Bool.true_and, decide_eq_true_eq]
    omega
  refine ⟨.list (dTalk l), .list (dTalk l), .lst (ex_l e ha) (la.ex e).dp, .lst (ex_l e hb) (lb.ex e).dp, sh, sh, ?_⟩
  rw [SeqAt.eqv_refl _ (by rw [PyData.canLay0]; exact lay_talk l)]
  exact q H1 (Ex.refl H1)
/-- how many answers are lies -/
def wrong (l : List (List Int × Bool)) (i : Nat) : Nat := (l.filter fun p => hasI p.1 (i : Int) != p.2).length
def res (L : Int) (n : Nat) (l : List (List Int × Bool)) : List Int := (List.range n).map fun (i : Nat) => if L + 1 < (wrong l i : Int) then L + 1 else (wrong l i : Int)
theorem res_len (L : Int) (n : Nat) (l : List (List Int × Bool)) : (res L n l).length = n := by simp [res]
theorem wrong_snoc (l : List (List Int × Bool)) (q : List Int) (y : Bool) (i : Nat) : wrong (l ++ [(q, y)]) i = wrong l i + if (hasI q (i : Int) != y) = true then 1 else 0 := by
  unfold wrong
  rw [List.filter_append, List.length_append]
  by_cases h : (hasI q (i : Int) != y) = true
  · rw [if_pos h]
    simp [h]
  · rw [if_neg h]
    simp [h]
theorem getD_range (f : Nat → Int) {n i : Nat} (h : i < n) : ((List.range n).map f).getD i 0 = f i := by
  rw [List.getD_eq_getElem?_getD, List.getElem?_map, List.getElem?_range h]
  rfl
theorem res_snoc (L : Int) (n : Nat) (l : List (List Int × Bool)) (q : List Int) (y : Bool) : beh L (res L n l) q y = res L n (l ++ [(q, y)]) := by
  unfold beh
  rw [res_len]
  show (List.range n).map _ = (List.range n).map _
  refine List.map_congr_left fun i hi => ?_
  unfold bhv res
  rw [getD_range _ (List.mem_range.mp hi), wrong_snoc]
  by_cases h : (hasI q (i : Int) != y) = true
  · simp only [h, if_true]
    split <;> split <;> (try split) <;> omega
  · simp only [h, if_false]
    split <;> split <;> (try split) <;> first | omega | simp_all
theorem res_nil (L : Int) (h : 0 ≤ L) (n : Nat) : res L n [] = List.replicate n 0 := by
  have e : res L n [] = (List.range n).map fun _ => (0 : Int) := List.map_congr_left fun i _ => by
    show (if L + 1 < ((wrong [] i : Nat) : Int) then L + 1 else ((wrong [] i : Nat) : Int)) = 0
    unfold wrong
    simp
    omega
  rw [e, List.map_const', List.length_range]
theorem res_mks (L : Nat) (n : Nat) (l : List (List Int × Bool)) : Mks L (res (L : Int) n l) := by
  intro x hx
  obtain ⟨i, _, rfl⟩ := List.mem_map.mp hx
  split <;> omega
/-! ### a heap without one address -/
def hid (H : Hp) (D : Addr) : Hp := fun b => if b = D then none else H b
theorem hid_ne {H : Hp} {D b : Addr} (h : b ≠ D) : hid H D b = H b := by unfold hid; rw [if_neg h]
theorem ex_hid (H : Hp) (D : Addr) : Ex (hid H D) H := fun b o e => by
  unfold hid at e
  split at e
  · cases e
  · exact e
theorem hid_ex {H H' : Hp} (e : Ex H H') (D : Addr) : Ex (hid H D) (hid H' D) := fun b o h => by
  unfold hid at h ⊢
  split at h
  · cases h
  · rename_i n
    rw [if_neg n]
    exact e b o h
theorem hid_upd (H : Hp) (D : Addr) (o : HO) : hid (upd H D o) D = hid H D := by
  funext b
  unfold hid
  split
  · rfl
  · rename_i n
    exact upd_ne n
/-- what is in the heap and is not at D -/
theorem hid_at {H : Hp} {D b : Addr} {o : HO} (h : H b = some o) (n : b ≠ D) : hid H D b = some o := by rw [hid_ne n]; exact h
section
variable {K : PySem.W.Frag} {σ : L2.St} {H H' : Hp} {ta tb tc td tl te : TE} {t : TT} {x y z : V}
/-- f(x, y, a new list): a new list -/
theorem el_call2L {sp : Sp} {E : XK} {xs zs : List V} (ha : Ev ta σ H x) (hb : Ev tb σ H y) (hc : EvL tc σ H xs) (hs : ∀ p H1, Ex H H1 → H1 p = some (.lst xs) → SpL sp [x, y, .ref p] H1 zs) : EvL (tCall sp [] E (tCons ta (tCons tb (tCons tc tNil)))) σ H zs := fun H1 e Q q =>
  ha H1 e _ fun H2 e2 => hb H2 (e.trans e2) _ fun H3 e3 => hc H3 ((e.trans e2).trans e3) _ fun p H4 _ e4 h4 => hs p H4 (((e.trans e2).trans e3).trans e4) h4 H4 (Ex.refl H4) Q (fun r H5 nr e5 h5 => q r H5 (fresh_back ((e2.trans e3).trans e4) nr) (((e2.trans e3).trans e4).trans e5) h5) E
/-- f(x, y, a new list, z): a new list -/
theorem el_call3L {sp : Sp} {E : XK} {xs zs : List V} (ha : Ev ta σ H x) (hb : Ev tb σ H y) (hc : EvL tc σ H xs) (hd : ∀ H1, Ex H H1 → Ev td σ H1 z) (hs : ∀ p H1, Ex H H1 → H1 p = some (.lst xs) → SpL sp [x, y, .ref p, z] H1 zs) : EvL (tCall sp [] E (tCons ta (tCons tb (tCons tc (tCons td tNil))))) σ H zs := fun H1 e Q q =>
  ha H1 e _ fun H2 e2 => hb H2 (e.trans e2) _ fun H3 e3 => hc H3 ((e.trans e2).trans e3) _ fun p H4 _ e4 h4 => hd H4 (((e.trans e2).trans e3).trans e4) H4 (Ex.refl H4) _ fun H5 e5 => hs p H5 ((((e.trans e2).trans e3).trans e4).trans e5) (e5 p _ h4) H5 (Ex.refl H5) Q (fun r H6 nr e6 h6 => q r H6 (fresh_back (((e2.trans e3).trans e4).trans e5) nr) ((((e2.trans e3).trans e4).trans e5).trans e6) h6) E
/-- [1 for asked, yes in talk if ..] -/
theorem el_cTalk {i j : Nat} {vs : List Nat} {a : Addr} {ts : List Addr} {l : List (List Int × Bool)} (f : List Int × Bool → Bool) (h : Ev tl σ H (.ref a)) (hx : SqL K H a (ts.map V.ref)) (hT : TalkAt K H ts l) (hz : ts.length ≤ 1000) (hw : ∀ x y, wipe (((wipe σ vs).set i (some x)).set j (some y)) vs = wipe σ vs)
    (ht : ∀ q y b H1, Ex H H1 → SqL K H1 b (q.map V.int) → EvT t (((wipe σ vs).set i (some (.ref b))).set j (some (.bl y))) H1 (f (q, y))) :
    EvL (tLc (iList K tl) (gTup K 2 (gCons (gName i) (gCons (gName j) gNil))) t (tC (.int 1)) vs) σ H (((l.filter f).map fun _ => (1 : Int)).map V.int) := fun H0 e Q k => h H0 e _ fun H1 e1 => by
  have e01 := e.trans e1
  refine ⟨a, rfl, ⟨_, ex_l e01 hx⟩, fun D nD => ?_⟩
  refine lc_list (xs := ts.map V.ref) (fun n H' => Ex H1 H' ∧ H' D = some (.lst ((((l.take n).filter f).map fun _ => (1 : Int)).map V.int))) ⟨Ex.new nD, upd_same⟩ (fun n H' _ p => ex_l (e01.trans p.1) hx) (fun n x H' hn p => ?_) (fun H' p => ?_)
  · obtain ⟨p1, p2⟩ := p
    rw [List.getElem?_map] at hn
    cases hq : ts[n]? with
    | none =>
      rw [hq] at hn
      cases hn
    | some u =>
      rw [hq] at hn
      obtain rfl : V.ref u = x := Option.some.inj hn
      obtain ⟨q, y, b, hg, h1, h2⟩ := (hT.ex (e01.trans p1)).get hq
      refine ⟨u, _, rfl, h1, rfl, _, _, rfl, _, [], rfl, rfl, hw _ _, ?_⟩
      refine ht q y b H' (e01.trans p1) h2 H' (Ex.refl H') _ fun H3 e3 => ?_
      have hlen : (l.take n).length ≤ 1000 := by
        have := hT.len
        rw [List.length_take]
        omega
      cases hf : f (q, y) with
      | true =>
        refine iteT ⟨_, e3 _ _ p2, ?_, Ex.mut (p1.trans e3) nD, ?_⟩
        · rw [List.length_map, List.length_map]
          exact small1000 (Nat.le_trans (List.length_filter_le _ _) hlen)
        · rw [upd_same, List.take_add_one, hg, Option.toList_some, List.filter_append, List.filter_cons, if_pos hf, List.map_append, List.map_append]
          rfl
      | false =>
        refine iteF ⟨p1.trans e3, ?_⟩
        rw [List.take_add_one, hg, Option.toList_some, List.filter_append, List.filter_cons, if_neg (by rw [hf]; exact Bool.false_ne_true), List.filter_nil, List.append_nil]
        exact e3 _ _ p2
  · obtain ⟨p1, p2⟩ := p
    rw [List.take_of_length_le (by rw [len_map, hT.len]; exact Nat.le_refl _)] at p2
    exact k D H' (fresh_back e1 nD) (e1.trans p1) p2
/-- [(list(asked), yes) for asked, yes in talk] -/
theorem copy_talk {i j : Nat} {vs : List Nat} {a : Addr} {ts : List Addr} {l : List (List Int × Bool)} {Q : VK} (hi : (wipe σ vs).length = σ.length) (hij : i ≠ j ∧ i < σ.length ∧ j < σ.length) (h : Ev tl σ H (.ref a)) (hx : SqL K H a (ts.map V.ref)) (hT : TalkAt K H ts l) (hz : ts.length ≤ 1000) (hw : ∀ x y, wipe (((wipe σ vs).set i (some x)).set j (some y)) vs = wipe σ vs)
    (k : ∀ D H1 us, H D = none → Ex H H1 → H1 D = some (.lst (us.map V.ref)) → TalkAt K H1 us l → Q (.ref D) H1) :
    tLc (iList K tl) (gTup K 2 (gCons (gName i) (gCons (gName j) gNil))) tYes (tTup (tCons (tCB (Evl.rListS K) (tCons (tVar i) tNil)) (tCons (tVar j) tNil))) vs σ H Q := h H (Ex.refl H) _ fun H1 e1 => by
  refine ⟨a, rfl, ⟨_, ex_l e1 hx⟩, fun D nD => ?_⟩
  refine lc_list (xs := ts.map V.ref) (fun n H' => ∃ us, Ex H1 H' ∧ H' D = some (.lst (us.map V.ref)) ∧ us.length = n ∧ TalkAt K (hid H' D) us (l.take n)) ⟨[], Ex.new nD, upd_same, rfl, .nil⟩ (fun n H' _ p => by
    obtain ⟨_, p1, _⟩ := p
    exact ex_l (e1.trans p1) hx) (fun n x H' hn p => ?_) (fun H' p => ?_)
  · obtain ⟨us, p1, p2, p4, p3⟩ := p
    rw [List.getElem?_map] at hn
    cases hq : ts[n]? with
    | none =>
      rw [hq] at hn
      cases hn
    | some u =>
      rw [hq] at hn
      obtain rfl : V.ref u = x := Option.some.inj hn
      obtain ⟨q, y, b, hg, h1, h2⟩ := (hT.ex (e1.trans p1)).get hq
      refine ⟨u, _, rfl, h1, rfl, _, _, rfl, _, [], rfl, rfl, hw _ _, ?_⟩
      have si : ((((wipe σ vs).set i (some (V.ref b))).set j (some (V.bl y))))[i]? = some (some (.ref b)) := by
        rw [List.getElem?_set_ne (Ne.symm hij.1), List.getElem?_set_self (by rw [hi]; exact hij.2.1)]
      have sj : ((((wipe σ vs).set i (some (V.ref b))).set j (some (V.bl y))))[j]? = some (some (.bl y)) := by
        rw [List.getElem?_set_self (by rw [List.length_set, hi]; exact hij.2.2)]
      unfold tYes
      dsimp only
      rw [if_pos rfl]
      refine ⟨_, si, b, _, rfl, .inl h2, fun c nc => ⟨_, sj, by show 2 ≤ sizeLine; decide, fun t nt => ?_⟩⟩
      have ncD : c ≠ D := fun z => by
        rw [z, p2] at nc
        cases nc
      have ntD : t ≠ D := fun z => by
        rw [z, upd_ne (Ne.symm ncD), p2] at nt
        cases nt
      have ntc : c ≠ t := fun z => by
        rw [← z, upd_same] at nt
        cases nt
      have e' : Ex H' (upd (upd H' c (.lst (q.map V.int))) t (.tup [.ref c, .bl y])) := (Ex.new nc).trans (Ex.new nt)
      refine ⟨_, e' _ _ p2, ?_, us ++ [t], Ex.mut (p1.trans e') nD, ?_, by simp [p4], ?_⟩
      · have hl : n < ts.length := (List.getElem?_eq_some_iff.mp hq).1
        rw [List.length_map]
        exact small1000 (by omega)
      · rw [upd_same, List.map_append]
        rfl
      · rw [hid_upd, List.take_add_one, hg, Option.toList_some]
        exact (p3.ex (hid_ex e' D)).snoc (st_of (hid_at upd_same ntD)) (sq_of (hid_at (by rw [upd_ne ntc]; exact upd_same) ncD))
  · obtain ⟨us, p1, p2, _, p3⟩ := p
    rw [List.take_of_length_le (by rw [len_map, hT.len]; exact Nat.le_refl _)] at p3
    exact k D H' us (fresh_back e1 nD) (e1.trans p1) p2 (p3.ex (ex_hid H' D))
end
theorem q_copyTalk {K : PySem.W.Frag} {σ : L2.St} {H : Hp} {tl : TE} {D : Ends} {tz : TS} {i j r : Nat} {vs : List Nat} {a : Addr} {ts : List Addr} {l : List (List Int × Bool)} (hi : (wipe σ vs).length = σ.length) (hij : i ≠ j ∧ i < σ.length ∧ j < σ.length) (h : Ev tl σ H (.ref a)) (hx : SqL K H a (ts.map V.ref)) (hT : TalkAt K H ts l) (hz : ts.length ≤ 1000) (hw : ∀ x y, wipe (((wipe σ vs).set i (some x)).set j (some y)) vs = wipe σ vs)
    (k : ∀ p H1 us, H p = none → Ex H H1 → H1 p = some (.lst (us.map V.ref)) → TalkAt K H1 us l → tz D (σ.set r (some (.ref p))) H1) :
    tSeq (tAsg (tLc (iList K tl) (gTup K 2 (gCons (gName i) (gCons (gName j) gNil))) tYes (tTup (tCons (tCB (Evl.rListS K) (tCons (tVar i) tNil)) (tCons (tVar j) tNil))) vs) (gName r)) tz D σ H :=
  copy_talk (Q := fun x H1 => tz D (σ.set r (some x)) H1) hi hij h hx hT hz hw k
theorem drop_last (ts : List Addr) : cutV (ts.map V.ref) none (some (-1)) = (ts.take (ts.length - 1)).map V.ref := by
  unfold cutV
  rw [HT.sIx_none, len_map, List.drop_zero, List.map_take]
  congr 1
  unfold HT.sIx
  simp only []
  split <;> omega
/-! ### weights -/
theorem sum_cast (f : Nat → Nat) : ∀ l : List Nat, (l.map fun i => ((f i : Nat) : Int)).sum = (((l.map f).sum : Nat) : Int)
  | [] => rfl
  | x :: r => by
    rw [List.map_cons, List.sum_cons, List.map_cons, List.sum_cons, sum_cast f r]
    omega
theorem wy_int (l q : Nat) : ((List.range l).map fun (i : Nat) => (ch q i : Int)).sum = (wy l q : Int) := sum_cast (ch q) (List.range l)
theorem Wt_int (L : Int) (q : Nat) : ∀ m : List Int, (m.map fun x => (wy (L + 1 - x).toNat q : Int)).sum = (Wt L m q : Int)
  | [] => rfl
  | x :: r => by
    rw [List.map_cons, List.sum_cons, W_cons, Wt_int L q r]
    omega
def row (n : Nat) : List Int := (List.range (n + 1)).map fun (i : Nat) => (ch n i : Int)
theorem row_len (n : Nat) : (row n).length = n + 1 := by simp [row]
theorem ch_self : ∀ n : Nat, ch n n = 1
  | 0 => rfl
  | n + 1 => by
    show ch n n + ch n (n + 1) = 1
    rw [ch_self n, ch_big n (n + 1) (by omega)]
theorem row_get {n i : Nat} (h : i < n + 1) : (row n).getD i 0 = (ch n i : Int) := getD_range (fun (i : Nat) => (ch n i : Int)) h
theorem row_succ (n : Nat) : [(1 : Int)] ++ ((List.range n).map fun (j : Nat) => (row n).getD j 0 + (row n).getD (j + 1) 0) ++ [1] = row (n + 1) := by
  have e : ((List.range n).map fun (j : Nat) => (row n).getD j 0 + (row n).getD (j + 1) 0) = (List.range n).map fun (j : Nat) => (ch (n + 1) (j + 1) : Int) := List.map_congr_left fun j hj => by
    have := List.mem_range.mp hj
    rw [row_get (by omega), row_get (by omega)]
    show _ = ((ch n j + ch n (j + 1) : Nat) : Int)
    omega
  rw [e]
  unfold row
  rw [List.range_succ (n := n + 1), List.map_append, List.range_succ_eq_map, List.map_cons, List.map_map, ch_zero]
  show _ = _ ++ [((ch (n + 1) (n + 1) : Nat) : Int)]
  rw [ch_self]
  rfl
theorem row_take (n : Nat) : ∀ l : Nat, ((row n).take l).sum = (wy l n : Int)
  | 0 => by rw [wy_zero]; rfl
  | l + 1 => by
    rw [List.take_add_one, List.sum_append, row_take n l, wy_succ]
    by_cases h : l < n + 1
    · have e : (row n)[l]? = some (ch n l : Int) := by
        unfold row
        rw [List.getElem?_map, List.getElem?_range h]
        rfl
      rw [e]
      simp
    · rw [List.getElem?_eq_none (by rw [row_len]; omega), ch_big n l (by omega)]
      simp
theorem cut_take (ns : List Int) (k : Int) (h : 0 ≤ k) : cutV (ns.map V.int) none (some k) = (ns.take k.toNat).map V.int := by
  unfold cutV
  rw [HT.sIx_none, len_map, List.drop_zero, List.map_take]
  have e : HT.sIx ns.length ns.length (some k) = min k.toNat ns.length := by
    have z := HT.sIx_nat ns.length ns.length k.toNat
    rw [Int.toNat_of_nonneg h] at z
    exact z
  rw [e]
  by_cases hk : k.toNat ≤ ns.length
  · rw [Nat.min_eq_left hk]
    rfl
  · rw [Nat.min_eq_right (by omega), List.take_of_length_le (by simp), List.take_of_length_le (by simp; omega)]
theorem sum_filter (p : Nat → Bool) (g : Nat → Int) : ∀ l : List Nat, (∀ x ∈ l, p x = false → g x = 0) → ((l.filter p).map g).sum = (l.map g).sum
  | [], _ => rfl
  | x :: r, h => by
    have ih := sum_filter p g r fun y hy => h y (List.mem_cons_of_mem _ hy)
    rw [List.filter_cons]
    cases hp : p x with
    | true => rw [if_pos rfl, List.map_cons, List.sum_cons, List.map_cons, List.sum_cons, ih]
    | false =>
      rw [if_neg Bool.false_ne_true, ih, List.map_cons, List.sum_cons, h x List.mem_cons_self hp]
      omega
theorem map_getD (h : Int → Int) (m : List Int) : ((List.range m.length).map fun (i : Nat) => h (m.getD i 0)) = m.map h := by
  refine List.ext_getElem? fun i => ?_
  rw [List.getElem?_map, List.getElem?_map]
  by_cases hi : i < m.length
  · have e5 : m.getD i 0 = m[i] := by rw [List.getD_eq_getElem?_getD, List.getElem?_eq_getElem hi] <;> rfl
    rw [List.getElem?_range hi, List.getElem?_eq_getElem hi]
    show some (h (m.getD i 0)) = some (h m[i])
    rw [e5]
  · rw [List.getElem?_eq_none (l := List.range m.length) (by simp; omega), List.getElem?_eq_none (by omega)]
    rfl
theorem stl_sum (L : Int) (m : List Int) (q : Nat) : ((stl L m).map fun t => (wy (L + 1 - m.getD t.toNat 0).toNat q : Int)).sum = (Wt L m q : Int) := by
  unfold stl
  rw [List.map_map]
  have e := sum_filter (fun i => decide (m.getD i 0 ≤ L)) (fun (i : Nat) => (wy (L + 1 - m.getD i 0).toNat q : Int)) (List.range m.length) fun x _ hx => by
    have z := of_decide_eq_false hx
    rw [show (L + 1 - m.getD x 0).toNat = 0 by omega, wy_zero]
    rfl
  rw [map_getD (fun x => (wy (L + 1 - x).toNat q : Int)) m, Wt_int] at e
  rw [← e]
  rfl
theorem stl_len (L : Int) (m : List Int) : (stl L m).length = sta L m := by
  unfold stl sta
  rw [List.length_map, ← List.countP_eq_length_filter]
  have e : ∀ (m : List Int), m = (List.range m.length).map fun (i : Nat) => m.getD i 0 := fun m => by
    have z := map_getD (fun x => x) m
    rw [List.map_id'] at z
    exact z.symm
  conv => rhs; rw [e m]
  rw [List.countP_map]
  rfl
section
variable {K : PySem.W.Frag} {σ : L2.St} {H H' : Hp} {ta tb : TE}
theorem el_cat {xs ys : List V} (ha : EvL ta σ H xs) (hb : EvL tb σ H ys) (hz : xs.length + ys.length ≤ 100000) : EvL (tOp rCat ta tb) σ H (xs ++ ys) := fun H1 e Q q =>
  ha H1 e _ fun p H2 _ e2 hp => hb H2 (e.trans e2) _ fun r H3 _ e3 hr => ⟨p, r, xs, ys, rfl, rfl, e3 _ _ hp, hr, sz_of hz, fun l nl => q l _ (fresh_back (e2.trans e3) nl) ((e2.trans e3).trans (Ex.new nl)) upd_same⟩
end
theorem mem_stl {L : Int} {m : List Int} {x : Int} (h : x ∈ stl L m) : ∃ i : Nat, x = (i : Int) ∧ i < m.length ∧ m.getD i 0 ≤ L := by
  unfold stl at h
  obtain ⟨i, hi, rfl⟩ := List.mem_map.mp h
  obtain ⟨h1, h2⟩ := List.mem_filter.mp hi
  exact ⟨i, rfl, List.mem_range.mp h1, of_decide_eq_true h2⟩
/-! ### texts -/
def tx (cs : List Nat) : Str := ⟨cs.toArray⟩
theorem tx_tl (cs : List Nat) : tl (tx cs) = cs := by simp [tl, tx]
theorem tx_len (cs : List Nat) : (tx cs).length = cs.length := by rw [len_tl, tx_tl]
theorem tx_app (a b : List Nat) : tx a ++ tx b = tx (a ++ b) := ext_tl (by rw [tl_append, tx_tl, tx_tl, tx_tl])
theorem tx_inj {a b : List Nat} (h : tx a = tx b) : a = b := by
  have e := congrArg tl h
  rwa [tx_tl, tx_tl] at e
theorem dec_tx (a b : List Nat) : decide (V.str (tx a) = V.str (tx b)) = decide (a = b) := by
  rw [Bool.eq_iff_iff, decide_eq_true_eq, decide_eq_true_eq]
  constructor
  · intro h
    exact tx_inj (V.str.inj h)
  · intro h
    rw [h]
theorem tx_join (ys : List Nat) : Txt.join (tx []) (ys.map fun c => tx [c]) = tx ys := by
  rw [join_eq]
  refine ext_tl ?_
  rw [tl_join, tx_tl, tx_tl, List.map_map]
  have e : ∀ ys : List Nat, joinL [] (ys.map (tl ∘ fun c => tx [c])) = ys := by
    intro ys
    induction ys with
    | nil => rfl
    | cons c r ih =>
      cases r with
      | nil => exact tx_tl [c]
      | cons d r =>
        show tl (tx [c]) ++ ([] ++ joinL [] ((d :: r).map (tl ∘ fun c => tx [c]))) = c :: d :: r
        rw [ih, tx_tl]
        rfl
  exact e ys
/-- a mark's sign, a sign's mark -/
def sg (L x : Int) : Nat := if x ≤ L then 48 + x.toNat else 120
def us (L : Int) (c : Nat) : Int := if c = 120 then L + 1 else (c : Int) - 48
theorem us_sg {L : Nat} {x : Int} (h2 : L ≤ 2) (h : 0 ≤ x ∧ x ≤ (L : Int) + 1) : us (L : Int) (sg (L : Int) x) = x := by
  unfold us sg
  by_cases hx : x ≤ (L : Int)
  · rw [if_pos hx, if_neg (by omega)]
    omega
  · rw [if_neg hx, if_pos rfl]
    omega
section
variable {K : PySem.W.Frag} {σ : L2.St} {H H' : Hp} {ta tb tc te tl0 : TE} {D : Ends} {tu tz : TS} {z : V}
def rAddS1 : R2 := fun x y H Q => ∃ i j, x = .str i ∧ y = .str j ∧ i.length + j.length ≤ sizeLine ∧ Q (.str (i ++ j)) H
theorem rv_addS {a b : List Nat} (h : a.length + b.length ≤ 100000) : RV rAddS1 (.str (tx a)) (.str (tx b)) H (.str (tx (a ++ b))) := fun H1 _ _ q => ⟨tx a, tx b, rfl, rfl, by rw [tx_len, tx_len]; exact sz_of h, by rw [tx_app]; exact q H1 (Ex.refl H1)⟩
theorem ev_addS {a b : List Nat} (ha : Ev ta σ H (.str (tx a))) (hb : Ev tb σ H (.str (tx b))) (h : a.length + b.length ≤ 100000) : Ev (tOp (fun x y H Q => ∃ i j, x = .str i ∧ y = .str j ∧ i.length + j.length ≤ sizeLine ∧ Q (.str (i ++ j)) H) ta tb) σ H (.str (tx (a ++ b))) := ev_op ha hb (rv_addS h)
theorem ev_slS {tl th : TO} {s : Str} {lo hi : Option Int} (h : Ev te σ H (.str s)) (h1 : EvO tl σ H lo) (h2 : EvO th σ H hi) (hz : s.length ≤ 1000) : Ev (tSl rSlS te tl th) σ H (.str (cutS s lo hi)) := fun H1 e Q q =>
  h H1 e _ fun H2 e2 => h1 H2 (e.trans e2) _ fun H3 e3 => h2 H3 ((e.trans e2).trans e3) _ fun H4 e4 => ⟨s, rfl, sz_of (by omega), q H4 ((e2.trans e3).trans e4)⟩
theorem ev_inS {c : Nat} {s : Str} (ha : Ev ta σ H (.str (tx [c]))) (hb : Ev tb σ H (.str s)) : Ev (tOp (fun x y H Q => ∃ (c : Nat) (z : Str), x = .str ⟨#[c]⟩ ∧ y = .str z ∧ Q (.bl (decide (c ∈ z.cps.toList))) H) ta tb) σ H (.bl (decide (c ∈ tl s))) := fun H1 e Q q =>
  ha H1 e _ fun H2 e2 => hb H2 (e.trans e2) _ fun H3 e3 => ⟨c, s, rfl, rfl, q H3 (e2.trans e3)⟩
theorem ev_idxS {a b : Str} {i : Nat} {rest : List Nat} (ha : Ev ta σ H (.str a)) (hb : Ev tb σ H (.str b)) (ho : Builtin.Str.occurrences a b 0 a.length 1 = i :: rest) :
    Ev (tM1 (fun x xs H Q => ∃ a b i rest, x = .str a ∧ xs = [.str b] ∧ Builtin.Str.occurrences a b 0 a.length 1 = i :: rest ∧ Q (.int (i : Nat)) H) ta tb) σ H (.int (i : Int)) := fun H1 e Q q =>
  ha H1 e _ fun H2 e2 => ⟨⟨a, rfl⟩, hb H2 (e.trans e2) _ fun H3 e3 => ⟨a, b, i, rest, rfl, rfl, ho, q H3 (e2.trans e3)⟩⟩
theorem ev_joinS {a : Str} {ys : List Str} (ha : Ev ta σ H (.str a)) (hb : EvL tb σ H (ys.map V.str)) (hz : (ys.map (·.length)).sum + ys.length * a.length ≤ 1000) :
    Ev (tM1 (fun x xs H Q => ∃ a p, ∃ ys : List Str, x = .str a ∧ xs = [.ref p] ∧ (SqL K H p (ys.map V.str) ∨ SqT K H p (ys.map V.str)) ∧ (ys.map (·.length)).sum + ys.length * a.length ≤ 16777216 ∧ Q (.str (Txt.join a ys)) H) ta tb) σ H (.str (Txt.join a ys)) := fun H1 e Q q =>
  ha H1 e _ fun H2 e2 => ⟨⟨a, rfl⟩, hb H2 (e.trans e2) _ fun p H3 _ e3 hp => ⟨a, p, ys, rfl, rfl, .inl (sq_of hp), by omega, q H3 (e2.trans e3)⟩⟩
/-- for sign in text -/
theorem s_forS {j : Nat} {cs : List Nat} (h : Ev tl0 σ H (.str (tx cs))) (Pv : Nat → L2.St → Hp → Prop) (h0 : ∀ H1, Ex H H1 → Pv 0 σ H1)
    (hs : ∀ i c σ' H', cs[i]? = some c → Pv i σ' H' → tu { D with nx := Pv (i + 1), ct := Pv (i + 1), bk := D.nx } (σ'.set j (some (.str (tx [c])))) H') (hd : ∀ σ' H', Pv cs.length σ' H' → D.nx σ' H') : tFor (iStr tl0) (gName j) tu D σ H :=
  h H (Ex.refl H) _ fun H1 e => ⟨tx cs, rfl, by
    refine ⟨fun i m σ' G => m = cs.length - i ∧ i ≤ cs.length ∧ Pv i σ' G, ⟨cs.length, by simp, Nat.zero_le _, h0 H1 e⟩, ?_⟩
    rintro i m σ' G ⟨rfl, hi, p⟩
    have hz : (tx cs).cps.size = cs.length := by simp [tx]
    by_cases hlt : i < cs.length
    · refine .inr ⟨show i < (tx cs).cps.size by omega, Pv (i + 1), fun σ2 G2 p' => ⟨cs.length - (i + 1), by omega, rfl, hlt, p'⟩, fun x G' y => ?_⟩
      obtain ⟨rfl, c, hc, rfl⟩ := y
      have hc2 : cs[i]? = some c := by
        rw [← hc]
        simp [tx]
      exact hs i c σ' _ hc2 p
    · have e2 : i = cs.length := by omega
      subst e2
      exact .inl ⟨show (tx cs).cps.size ≤ cs.length by omega, hd σ' G p⟩⟩
theorem q_forS {j : Nat} {cs : List Nat} (h : Ev tl0 σ H (.str (tx cs))) (Pv : Nat → L2.St → Hp → Prop) (h0 : ∀ H1, Ex H H1 → Pv 0 σ H1)
    (hs : ∀ i c σ' H', cs[i]? = some c → Pv i σ' H' → tu { D with nx := Pv (i + 1), ct := Pv (i + 1), bk := tz D } (σ'.set j (some (.str (tx [c])))) H') (hd : ∀ σ' H', Pv cs.length σ' H' → tz D σ' H') : tSeq (tFor (iStr tl0) (gName j) tu) tz D σ H :=
  s_forS (D := { D with nx := tz D }) h Pv h0 hs hd
/-- [e for x in a list of ints], texts -/
theorem el_cLS {a : Addr} {ns : List Int} {tl : TE} {j : Nat} {vs : List Nat} (g : Int → Str) (h : Ev tl σ H (.ref a)) (hx : SqL K H a (ns.map V.int)) (hz : ns.length ≤ 40000) (hw : ∀ x, wipe ((wipe σ vs).set j (some x)) vs = wipe σ vs)
    (he : ∀ (x : Int) H1, Ex H H1 → x ∈ ns → Ev te ((wipe σ vs).set j (some (.int x))) H1 (.str (g x))) : EvL (tLc (iList K tl) (gName j) tYes te vs) σ H ((ns.map g).map V.str) := by
  have e := el_lcL (K := K) (t := tYes) (te := te) (xs := ns.map V.int) (fun _ => true) (fun i => V.str (g (ns.getD i 0))) h hx (by rw [len_map]; exact hz) hw (fun _ _ _ _ _ => et_yes) (fun i x H1 e1 hi _ => by
    rw [List.getElem?_map] at hi
    cases q : ns[i]? with
    | none =>
      rw [q] at hi
      cases hi
    | some y =>
      rw [q] at hi
      have e2 : x = V.int y := (Option.some.inj hi).symm
      subst e2
      have e3 : ns.getD i 0 = y := by rw [List.getD_eq_getElem?_getD, q] <;> rfl
      rw [e3]
      exact he y H1 e1 (List.mem_of_getElem? q))
  rw [given_all, len_map] at e
  have e4 : ((List.range ns.length).map fun i => V.str (g (ns.getD i 0))) = (ns.map g).map V.str := by
    refine List.ext_getElem? fun i => ?_
    rw [List.getElem?_map, List.getElem?_map, List.getElem?_map]
    by_cases hi : i < ns.length
    · have e5 : ns.getD i 0 = ns[i] := by rw [List.getD_eq_getElem?_getD, List.getElem?_eq_getElem hi] <;> rfl
      rw [List.getElem?_range hi, List.getElem?_eq_getElem hi]
      show some (V.str (g (ns.getD i 0))) = some (V.str (g ns[i]))
      rw [e5]
    · rw [List.getElem?_eq_none (by simp; omega), List.getElem?_eq_none (by omega)]
      rfl
  rw [← e4]
  exact e
end
theorem s012 : Str.ofString "012" = tx [48, 49, 50] := by decide +kernel
theorem sX : Str.ofString "x" = tx [120] := by decide +kernel
theorem sE : Str.ofString "" = tx [] := by decide +kernel
theorem atS {cs : List Nat} {i : Nat} {c : Nat} (h : cs[i]? = some c) : atI (tx cs).cps.toList (i : Int) = some c := atI_nat (by simpa [tx] using h)
theorem cut1 {k : Nat} (h : k ≤ 2) : cutS (tx [48, 49, 50]) (some (k : Int)) (some ((k : Int) + 1)) = tx [48 + k] := by
  have h3 : k = 0 ∨ k = 1 ∨ k = 2 := by omega
  rcases h3 with rfl | rfl | rfl <;> decide +kernel
theorem cut0 {k : Nat} (h : k ≤ 2) : tl (cutS (tx [48, 49, 50]) none (some ((k : Int) + 1))) = ([48, 49, 50] : List Nat).take (k + 1) := by
  have h3 : k = 0 ∨ k = 1 ∨ k = 2 := by omega
  rcases h3 with rfl | rfl | rfl <;> decide +kernel
theorem occ {k : Nat} (h : k ≤ 2) : ∃ rest, Builtin.Str.occurrences (tx [48, 49, 50]) (tx [48 + k]) 0 (tx [48, 49, 50]).length 1 = k :: rest := by
  have h3 : k = 0 ∨ k = 1 ∨ k = 2 := by omega
  rcases h3 with rfl | rfl | rfl <;> exact ⟨[], by decide +kernel⟩
/-! ### dicts whose keys are tuples of a tuple of ints and an int -/
abbrev Ky := List Int × Int
def kyN (k : Ky) : NestedKey := .tup [.tup (k.1.map NestedKey.num), .num k.2]
theorem num_inj : ∀ {a b : List Int}, a.map NestedKey.num = b.map NestedKey.num → a = b
  | [], [], _ => rfl
  | [], _ :: _, h => by simp at h
  | _ :: _, [], h => by simp at h
  | x :: a, y :: b, h => by
    rw [List.map_cons, List.map_cons] at h
    injection h with h1 h2
    injection h1 with h1
    rw [h1, num_inj h2]
theorem kyN_inj {a b : Ky} (h : kyN a = kyN b) : a = b := by
  unfold kyN at h
  injection h with h
  injection h with h1 h2
  injection h1 with h1
  injection h2 with h2 _
  injection h2 with h2
  obtain ⟨a1, a2⟩ := a
  obtain ⟨b1, b2⟩ := b
  have e1 : a1 = b1 := num_inj h1
  have e2 : a2 = b2 := h2
  rw [e1, e2]
theorem depth_nums : ∀ l : List Int, NestedKey.depthAll (l.map NestedKey.num) = 0
  | [] => rfl
  | x :: r => by
    rw [List.map_cons, NestedKey.depthAll, depth_nums r]
    rfl
theorem kyN_depth (k : Ky) : (kyN k).depth ≤ 8 := by
  unfold kyN
  rw [NestedKey.depth, NestedKey.depthAll, NestedKey.depthAll, NestedKey.depthAll, NestedKey.depth, NestedKey.depth, depth_nums]
  decide
/-- at a stands such a tuple -/
def KeyAt (H : Hp) (a : Addr) (k : Ky) : Prop := ∃ c, H a = some (.tup [.ref c, .int k.2]) ∧ H c = some (.tup (k.1.map V.int))
theorem KeyAt.ex {H H' : Hp} {a : Addr} {k : Ky} (h : KeyAt H a k) (e : Ex H H') : KeyAt H' a k := by
  obtain ⟨c, h1, h2⟩ := h
  exact ⟨c, e _ _ h1, e _ _ h2⟩
theorem nested_ints {h : Heap} : ∀ {ns : List Int} {us : List Value}, Vals (ns.map V.int) us → NestedAll h (ns.map NestedKey.num) us
  | [], _, r => by cases r; exact .nil
  | x :: ns, _, r => by
    cases r with
    | cons r1 r2 =>
      obtain ⟨t, rfl⟩ := r1
      exact .cons (.int x t) (nested_ints r2)
section
variable {P : Program} {w : World} {H H' : Hp} {h : Heap} {a d : Addr} {k : Ky}
theorem key_is (ok : HOk P w H h) (e : KeyAt H a k) : (nestedKind P w).is h (kyN k) a := by
  obtain ⟨c, e1, e2⟩ := e
  obtain ⟨_, its, r, o, g1, g2, n, g3⟩ := (show ObjOk P w H h a (.tup [.ref c, .int k.2]) from ok a _ e1)
  obtain ⟨_, js, r', o', f1, f2, n', f3⟩ := (show ObjOk P w H h c (.tup (k.1.map V.int)) from ok c _ e2)
  refine ⟨.tup g1 g2 g3 ?_, kyN_depth k⟩
  cases r with
  | cons r1 r2 =>
    cases r2 with
    | cons r2 r3 =>
      cases r3
      cases r1
      obtain ⟨t, rfl⟩ := r2
      exact .cons (.tup f1 f2 f3 (nested_ints r')) (.cons (.int _ t) .nil)
/-- the dict's own object, by its entries -/
def ndP (P : Program) (w : World) (d : Addr) (xs : List (NestedKey × Addr × Value)) (h : Heap) : Prop :=
  (d == sysModules) = false ∧ ∃ o es ep, h.get? d = some o ∧ o.ExactDict ∧ o.data = .dict es ep ∧ es.toList = xs.map (entryOfKey (nestedKind P w)) ∧ (xs.map (·.1)).Nodup
abbrev Kvs := List (Ky × Bool)
def NRel (H : Hp) (kvs : Kvs) (xs : List (NestedKey × Addr × Value)) : Prop := Paired (fun (p : Ky × Bool) (x : NestedKey × Addr × Value) => x.1 = kyN p.1 ∧ KeyAt H x.2.1 p.1 ∧ x.2.2 = .bool p.2) kvs xs
/-- at d stands a dict of these keys and truth values -/
def DN (P : Program) (w : World) (H : Hp) (d : Addr) (kvs : Kvs) : Prop := ∃ xs, H d = some (.ext (ndP P w d xs)) ∧ NRel H kvs xs
theorem NRel.ex {kvs : Kvs} {xs : List (NestedKey × Addr × Value)} (r : NRel H kvs xs) (e : Ex H H') : NRel H' kvs xs := Paired.mapP r fun _ _ z => ⟨z.1, z.2.1.ex e, z.2.2⟩
theorem DN.ex {kvs : Kvs} (r : DN P w H d kvs) (e : Ex H H') : DN P w H' d kvs := by
  obtain ⟨xs, h1, h2⟩ := r
  exact ⟨xs, e _ _ h1, h2.ex e⟩
def lkN (kvs : Kvs) (k : Ky) : Option Bool := (kvs.find? fun p => decide (p.1 = k)).map (·.2)
def putN (kvs : Kvs) (k : Ky) (b : Bool) : Kvs := if (lkN kvs k).isSome then kvs.map (fun p => if p.1 = k then (p.1, b) else p) else kvs ++ [(k, b)]
theorem NRel.lk {kvs : Kvs} {xs : List (NestedKey × Addr × Value)} (r : NRel H kvs xs) (k : Ky) : (atKey xs (kyN k)).map (·.2) = (lkN kvs k).map Value.bool := by
  induction r with
  | nil => rfl
  | @cons p x ps xs hp _ ih =>
    obtain ⟨h1, _, h3⟩ := hp
    unfold atKey lkN
    rw [List.find?_cons, List.find?_cons]
    by_cases hk : p.1 = k
    · have e1 : decide (x.1 = kyN k) = true := decide_eq_true (by rw [h1, hk])
      have e2 : decide (p.1 = k) = true := decide_eq_true hk
      rw [e1, e2]
      show some x.2.2 = some (Value.bool p.2)
      rw [h3]
    · have e1 : decide (x.1 = kyN k) = false := decide_eq_false fun z => hk (kyN_inj (h1.symm.trans z))
      have e2 : decide (p.1 = k) = false := decide_eq_false hk
      rw [e1, e2]
      exact ih
theorem NRel.is_some {kvs : Kvs} {xs : List (NestedKey × Addr × Value)} (r : NRel H kvs xs) (k : Ky) : (atKey xs (kyN k)).isSome = (lkN kvs k).isSome := by
  have e := congrArg Option.isSome (r.lk k)
  rwa [Option.isSome_map, Option.isSome_map] at e
theorem NRel.put {kvs : Kvs} {xs : List (NestedKey × Addr × Value)} (r : NRel H kvs xs) {k : Ky} {a : Addr} (b : Bool) (hk : KeyAt H a k) : NRel H (putN kvs k b) (storedH xs (kyN k) a (.bool b)) := by
  unfold putN storedH
  rw [r.is_some k]
  by_cases q : (lkN kvs k).isSome = true
  · rw [if_pos q, if_pos q]
    clear q
    induction r with
    | nil => exact .nil
    | @cons p x ps xs hp _ ih =>
      rw [List.map_cons, List.map_cons]
      refine .cons ?_ ih
      obtain ⟨h1, h2, h3⟩ := hp
      unfold putAt
      by_cases hq : p.1 = k
      · rw [if_pos (by rw [h1, hq]), if_pos hq]
        exact ⟨h1, h2, rfl⟩
      · rw [if_neg (fun z => hq (kyN_inj (h1.symm.trans z))), if_neg hq]
        exact ⟨h1, h2, h3⟩
  · rw [if_neg q, if_neg q]
    exact Paired.snoc r ⟨rfl, hk, rfl⟩
theorem NRel.keys {kvs : Kvs} {xs : List (NestedKey × Addr × Value)} (r : NRel H kvs xs) : xs.map (·.1) = (kvs.map (·.1)).map kyN := by
  induction r with
  | nil => rfl
  | @cons p x ps xs hp _ ih => rw [List.map_cons, List.map_cons, List.map_cons, ih, hp.1]
theorem nd_ok (ok : HOk P w H h) {xs : List (NestedKey × Addr × Value)} {kvs : Kvs} (e : H d = some (.ext (ndP P w d xs))) (r : NRel H kvs xs) : (d == sysModules) = false ∧ h.DictOfH (nestedKind P w) d xs := by
  obtain ⟨⟨hd, o, es, ep, h1, h2, h3, h4, h5⟩, _⟩ := (show ObjOk P w H h d (.ext (ndP P w d xs)) from ok d _ e)
  refine ⟨hd, o, es, ep, h1, h2, h3, h4, fun x hx => ?_, h5⟩
  have all : ∀ {l : Kvs} {m : List (NestedKey × Addr × Value)}, NRel H l m → ∀ x ∈ m, (nestedKind P w).is h x.1 x.2.1 := by
    intro l m q
    induction q with
    | nil => intro x hx; exact nomatch hx
    | @cons p y ps ys hq t ih =>
      intro x hx
      rcases List.mem_cons.mp hx with e | hx
      · subst e
        rw [hq.1]
        exact key_is ok hq.2.1
      · exact ih x hx
  exact all r x hx
theorem nd_obj {xs : List (NestedKey × Addr × Value)} (hd : (d == sysModules) = false) (dd : h.DictOfH (nestedKind P w) d xs) : ObjOk P w H' h d (.ext (ndP P w d xs)) := by
  obtain ⟨o, es, ep, h1, h2, h3, h4, _, h5⟩ := dd
  refine ⟨⟨hd, o, es, ep, h1, h2, h3, h4, h5⟩, ⟨o, h1⟩, fun g1 g2 q k => ?_⟩
  obtain ⟨a1, o', es', ep', a2, a3⟩ := q
  exact ⟨a1, o', es', ep', k o' a2, a3⟩
end
section
variable {X : Cx}
theorem pe_dnewN {pos : Pos} : PE X (.Dict [] [] pos) (fun _ H Q => ∀ d, H d = none → Q (.ref d) (upd H d (.ext (ndP X.prog X.w d [])))) := ⟨fun pins s σ H Q I h =>
  wpAny_Dict_empty ⟨.ref s.heap.objs.size, _, I.laid (a := s.heap.objs.size) (t' := s.toks) (fun _ _ q => Heap.get?_push_of_some _ q) (Nat.le_refl _)
    (nd_obj (by
      have z := I.big
      exact beq_eq_false_iff_ne.mpr (Nat.ne_of_gt z)) (Heap.DictOfH.new s.heap)), rfl, h _ (I.hok.fresh (Nat.le_refl _))⟩⟩
def rInN (P : Program) (w : World) (neg : Bool) : R2 := fun x y H Q => ∃ a d k kvs, x = .ref a ∧ y = .ref d ∧ KeyAt H a k ∧ DN P w H d kvs ∧ Q (.bl (if neg then !(lkN kvs k).isSome else (lkN kvs k).isSome)) H
theorem op_inN (hu : X.A.units + 64 < cLine) : OpR X (compareOp .In) (rInN X.prog X.w false) := by
  intro pins s σ H x y v u Q I rx ry h
  obtain ⟨a, d, k, kvs, rfl, rfl, hk, ⟨xs, e, r⟩, q⟩ := h
  cases rx
  cases ry
  obtain ⟨hd, dd⟩ := nd_ok I.hok e r
  refine wpAny_in_heap (knd := nestedKind X.prog X.w) (by show X.A.in1.units + 8 < cLine; show X.A.units + 1 + 8 < cLine; omega) (key_is I.hok hk) hd dd ?_
  rw [r.is_some k]
  exact ⟨.bl (lkN kvs k).isSome, H, I.tok _, rfl, q⟩
theorem op_notInN (hu : X.A.units + 64 < cLine) : OpR X (compareOp .NotIn) (rInN X.prog X.w true) := by
  intro pins s σ H x y v u Q I rx ry h
  obtain ⟨a, d, k, kvs, rfl, rfl, hk, ⟨xs, e, r⟩, q⟩ := h
  cases rx
  cases ry
  obtain ⟨hd, dd⟩ := nd_ok I.hok e r
  refine wpAny_notIn_heap (knd := nestedKind X.prog X.w) (by show X.A.in1.units + 8 < cLine; show X.A.units + 1 + 8 < cLine; omega) (key_is I.hok hk) hd dd ?_
  rw [r.is_some k]
  exact ⟨.bl (!(lkN kvs k).isSome), H, I.tok _, rfl, q⟩
def rGetN (P : Program) (w : World) : R2 := fun x y H Q => ∃ a d k kvs b, x = .ref d ∧ y = .ref a ∧ KeyAt H a k ∧ DN P w H d kvs ∧ lkN kvs k = some b ∧ Q (.bl b) H
theorem ix_nest (hu : X.A.units + 64 < cLine) : IxR X (rGetN X.prog X.w) := by
  intro value slice pins s σ H x y v u Q I rx ry h hs
  obtain ⟨a, d, k, kvs, b, rfl, rfl, hk, ⟨xs, e, r⟩, hb, q⟩ := h
  cases rx
  cases ry
  obtain ⟨hd, dd⟩ := nd_ok I.hok e r
  have l := r.lk k
  rw [hb] at l
  obtain ⟨p, hp, hp2⟩ := Option.map_eq_some_iff.mp l
  refine tail_any dd.typeIs PySem.F.slot_dict_getitem.lookup (wpAny_getItem_heap (knd := nestedKind X.prog X.w) (by show X.A.in1.units + 8 < cLine; show X.A.units + 1 + 8 < cLine; omega) (key_is I.hok hk) dd hp ?_) hs
  rw [hp2]
  exact ⟨.bl b, H, I.tok _, rfl, q⟩
def rSetN (P : Program) (w : World) : TSet := fun o i v H Q => ∃ d a k kvs b, o = .ref d ∧ i = .ref a ∧ v = .bl b ∧ KeyAt H a k ∧ DN P w H d kvs ∧ kvs.length ≤ sizeLine ∧ ∀ ob, (∀ H1, Ex (hid H d) (hid H1 d) → H1 d = some ob → DN P w H1 d (putN kvs k b)) → Q (upd H d ob)
theorem set_nest (hu : X.A.units + 64 < cLine) : PSet X (rSetN X.prog X.w) := by
  intro pins s σ H o i v ov iv u Q I ro ri rv h
  obtain ⟨d, a, k, kvs, b, rfl, rfl, rfl, hk, ⟨xs, e, r⟩, hz, q⟩ := h
  cases ro
  cases ri
  cases rv
  obtain ⟨hd, dd⟩ := nd_ok I.hok e r
  have hlen : xs.length = kvs.length := (Paired.length r).symm
  refine wpAny_setItem_heap (knd := nestedKind X.prog X.w) (hsz := by omega) (by show X.A.in1.units + 8 < cLine; show X.A.units + 1 + 8 < cLine; omega) (key_is I.hok hk) dd fun h' dd' hs => ?_
  have nd : ∀ {c : Addr} {ys : List V}, H c = some (.tup ys) → c ≠ d := fun {c ys} hc z => by
    rw [z, e] at hc
    cases hc
  have kx : ∀ {H1 : Hp}, Ex (hid H d) (hid H1 d) → ∀ {c : Addr} {j : Ky}, KeyAt H c j → KeyAt H1 c j := fun {H1} eH {c j} hc => by
    obtain ⟨c2, q1, q2⟩ := hc
    exact ⟨c2, ex_hid H1 d _ _ (eH _ _ (hid_at q1 (nd q1))), ex_hid H1 d _ _ (eH _ _ (hid_at q2 (nd q2)))⟩
  refine ⟨_, I.write (x := d) (e := d) (o := .ext (ndP X.prog X.w d (storedH xs (kyN k) a (.bool b)))) (by rw [e]; exact True.intro) (.inl rfl) (fun c o hc z => (hs.2 c hc).trans z) (let ⟨o, _, _, ho, _⟩ := dd'; ⟨o, ho⟩) (nd_obj hd dd'), q _ fun H1 eH hd1 => ⟨_, hd1, ?_⟩⟩
  exact Paired.mapP (r.put b hk) fun p x z => ⟨z.1, kx eH z.2.1, z.2.2⟩
end
/-! ### counts as tuples -/
def ic (cs : List Nat) : List Int := cs.map fun (n : Nat) => (n : Int)
theorem ic_len (cs : List Nat) : (ic cs).length = cs.length := by simp [ic]
theorem ic_inj : ∀ {a b : List Nat}, ic a = ic b → a = b
  | [], [], _ => rfl
  | [], _ :: _, h => by simp [ic] at h
  | _ :: _, [], h => by simp [ic] at h
  | x :: a, y :: b, h => by
    have h1 : (x : Int) :: ic a = (y : Int) :: ic b := h
    injection h1 with h1 h2
    rw [ic_inj h2, Int.ofNat_inj.mp h1]
theorem ic_get {cs : List Nat} {i : Nat} (h : i < cs.length) : (ic cs).getD i 0 = (cs.getD i 0 : Int) := by
  unfold ic
  rw [List.getD_eq_getElem?_getD, List.getElem?_map, List.getElem?_eq_getElem h, List.getD_eq_getElem?_getD, List.getElem?_eq_getElem h]
  rfl
theorem ic_sum : ∀ cs : List Nat, (ic cs).sum = (cs.sum : Int)
  | [] => rfl
  | x :: r => by
    show ((x : Int) :: ic r).sum = _
    rw [List.sum_cons, List.sum_cons, ic_sum r]
    omega
theorem ic_app (a b : List Nat) : ic (a ++ b) = ic a ++ ic b := List.map_append ..
/-- tuples of counts, each at its address -/
inductive TupsAt (H : Hp) : List Addr → List (List Nat) → Prop
  | nil : TupsAt H [] []
  | cons {r : Addr} {u : List Nat} {rs : List Addr} {us : List (List Nat)} : H r = some (.tup ((ic u).map V.int)) → TupsAt H rs us → TupsAt H (r :: rs) (u :: us)
theorem TupsAt.ex {H H' : Hp} {rs : List Addr} {us : List (List Nat)} (h : TupsAt H rs us) (e : Ex H H') : TupsAt H' rs us := by
  induction h with
  | nil => exact .nil
  | cons h _ ih => exact .cons (e _ _ h) ih
theorem TupsAt.len {H : Hp} {rs : List Addr} {us : List (List Nat)} (h : TupsAt H rs us) : rs.length = us.length := by
  induction h with
  | nil => rfl
  | cons _ _ ih => simp [ih]
theorem TupsAt.app {H : Hp} {rs ss : List Addr} {us ws : List (List Nat)} (h : TupsAt H rs us) (g : TupsAt H ss ws) : TupsAt H (rs ++ ss) (us ++ ws) := by
  induction h with
  | nil => exact g
  | cons h _ ih => exact .cons h ih
theorem TupsAt.get {H : Hp} {rs : List Addr} {us : List (List Nat)} (h : TupsAt H rs us) : ∀ {i : Nat} {r : Addr}, rs[i]? = some r → ∃ u, us[i]? = some u ∧ H r = some (.tup ((ic u).map V.int)) := by
  induction h with
  | nil => intro i r e; simp at e
  | @cons r u rs us h _ ih =>
    intro i r' e
    cases i with
    | zero =>
      obtain rfl : r = r' := Option.some.inj e
      exact ⟨u, rfl, h⟩
    | succ i => exact ih e
theorem TupsAt.ne {H : Hp} {D : Addr} {xs : List V} (hD : H D = some (.lst xs)) {rs : List Addr} {us : List (List Nat)} (h : TupsAt H rs us) : TupsAt (hid H D) rs us := by
  induction h with
  | nil => exact .nil
  | cons h _ ih => exact .cons (hid_at h fun z => by rw [z, hD] at h; cases h) ih
/-- [taken + (some,) for some in range(count + 1)] -/
theorem part_lc {K : PySem.W.Frag} {σ : L2.St} {H : Hp} {ta : TA} {i j : Nat} {vs : List Nat} {c : Nat} {r : Addr} {u : List Nat} {Q : VK} (h : EvA ta σ H [.int ((c : Int) + 1)]) (hc : c ≤ 1000) (hu : u.length ≤ 1000) (hr : H r = some (.tup ((ic u).map V.int)))
    (hi : ∀ x, ((wipe σ vs).set j (some x))[i]? = some (some (.ref r))) (hj : ∀ x, ((wipe σ vs).set j (some x))[j]? = some (some x)) (hw : ∀ x, wipe ((wipe σ vs).set j (some x)) vs = wipe σ vs)
    (k : ∀ D H1 ss, H D = none → Ex H H1 → H1 D = some (.lst (ss.map V.ref)) → TupsAt H1 ss ((List.range (c + 1)).map fun s => u ++ [s]) → Q (.ref D) H1) :
    tLc (iRng1 ta) (gName j) tYes (tOp (rCatA K) (tVar i) (tTup (tCons (tVar j) tNil))) vs σ H Q := h H (Ex.refl H) _ fun H1 e1 => by
  refine ⟨_, rfl, by omega, by omega, fun D nD => ?_⟩
  have ec : ((c : Int) + 1).toNat = c + 1 := by omega
  refine lc_range (lo := 0) (n := ((c : Int) + 1).toNat) (fun n H' => ∃ ss, Ex H1 H' ∧ H' D = some (.lst (ss.map V.ref)) ∧ ss.length = n ∧ TupsAt (hid H' D) ss ((List.range n).map fun s => u ++ [s])) ⟨[], Ex.new nD, upd_same, rfl, .nil⟩ (fun n H' hn p => ?_) (fun H' p => ?_)
  · obtain ⟨ss, p1, p2, p3, p4⟩ := p
    have e0 : (0 : Int) + (n : Int) = (n : Int) := Int.zero_add _
    show wipe ((wipe σ vs).set j (some (.int ((0 : Int) + (n : Int))))) vs = wipe σ vs ∧ tYes ((wipe σ vs).set j (some (.int ((0 : Int) + (n : Int))))) H' _
    rw [e0]
    refine ⟨hw _, ?_⟩
    unfold tYes
    dsimp only
    rw [if_pos rfl]
    have hrr := (e1.trans p1) _ _ hr
    have nrD : r ≠ D := fun z => by
      rw [z, p2] at hrr
      cases hrr
    have fin : ∀ (H4 : Hp) (t : Addr), Ex H' H4 → H4 t = some (.tup ((ic (u ++ [n])).map V.int)) → ∃ acc, H4 D = some (.lst acc) ∧ acc.length < sizeLine ∧ ∃ ss, Ex H1 (upd H4 D (.lst (acc ++ [.ref t]))) ∧ (upd H4 D (.lst (acc ++ [.ref t]))) D = some (.lst (ss.map V.ref)) ∧ ss.length = n + 1 ∧ TupsAt (hid (upd H4 D (.lst (acc ++ [.ref t]))) D) ss ((List.range (n + 1)).map fun s => u ++ [s]) := fun H4 t e4 ht => by
      have ntD : t ≠ D := fun z => by
        rw [z, e4 _ _ p2] at ht
        cases ht
      refine ⟨_, e4 _ _ p2, ?_, ss ++ [t], Ex.mut (p1.trans e4) nD, ?_, by simp [p3], ?_⟩
      · rw [len_map]
        exact Nat.lt_of_le_of_lt (by omega : ss.length ≤ 1001) (by decide)
      · rw [upd_same, List.map_append]
        rfl
      · rw [hid_upd, List.range_succ, List.map_append]
        exact (p4.ex (hid_ex e4 D)).app (.cons (hid_at ht ntD) .nil)
    refine ⟨_, hi _, _, hj _, by show 1 ≤ sizeLine; decide, fun b nb => ?_⟩
    have eb : Ex H' (upd H' b (.tup [.int (n : Int)])) := Ex.new nb
    refine ⟨r, b, (ic u).map V.int, [.int (n : Int)], rfl, rfl, st_of (eb _ _ hrr), st_of upd_same, ?_, fun hn0 => ?_, (fun _ h1 => nomatch h1), fun _ _ t nt => ?_⟩
    · rw [len_map, ic_len]
      exact sz_of (by show u.length + 1 ≤ 100000; omega)
    · refine fin _ b eb ?_
      have u0 : u = [] := by
        have z := congrArg List.length hn0
        rw [len_map, ic_len] at z
        exact List.length_eq_zero_iff.mp z
      rw [u0, upd_same]
      rfl
    · refine fin _ t (eb.trans (Ex.new nt)) ?_
      rw [upd_same, ic_app, List.map_append]
      rfl
  · obtain ⟨ss, p1, p2, _, p4⟩ := p
    rw [ec] at p4
    exact k D H' ss (fresh_back e1 nD) (e1.trans p1) p2 (p4.ex (ex_hid H' D))
theorem prt1_app (a b : List (List Nat)) (c : Nat) : prt1 (a ++ b) c = prt1 a c ++ prt1 b c := by
  unfold prt1
  rw [List.flatMap_append]
theorem prt1_one (u : List Nat) (c : Nat) : prt1 [u] c = (List.range (c + 1)).map fun s => u ++ [s] := by
  unfold prt1
  simp
theorem prt1_len (c : Nat) : ∀ us : List (List Nat), (prt1 us c).length = us.length * (c + 1)
  | [] => by simp [prt1]
  | u :: us => by
    have e : prt1 (u :: us) c = prt1 [u] c ++ prt1 us c := prt1_app [u] us c
    rw [e, List.length_append, prt1_one, List.length_map, List.length_range, prt1_len c us, List.length_cons, Nat.add_mul]
    omega
theorem prt1_mem_len {us : List (List Nat)} {c n : Nat} (h : ∀ u ∈ us, u.length = n) : ∀ u ∈ prt1 us c, u.length = n + 1 := by
  intro u hu
  obtain ⟨t, ht, s, _, rfl⟩ := mem_prt1.mp hu
  rw [List.length_append, h t ht]
  rfl
/-- the rows of partial ways -/
def prtT (cs : List Nat) (i : Nat) : List (List Nat) := (cs.take i).foldl prt1 [[]]
theorem prtT_zero (cs : List Nat) : prtT cs 0 = [[]] := rfl
theorem prtT_succ {cs : List Nat} {i c : Nat} (h : cs[i]? = some c) : prtT cs (i + 1) = prt1 (prtT cs i) c := by
  unfold prtT
  rw [List.take_add_one, h, Option.toList_some, List.foldl_append]
  rfl
theorem prtT_all (cs : List Nat) : prtT cs cs.length = prt cs := by
  unfold prtT prt
  rw [List.take_of_length_le (Nat.le_refl _)]
theorem prtT_len {cs : List Nat} (h8 : ∀ c ∈ cs, c ≤ 8) : ∀ i : Nat, i ≤ cs.length → (prtT cs i).length ≤ 9 ^ i
  | 0, _ => Nat.le_refl _
  | i + 1, hi => by
    have hlt : i < cs.length := by omega
    have hc : cs[i]? = some cs[i] := List.getElem?_eq_getElem hlt
    rw [prtT_succ hc, prt1_len, Nat.pow_succ]
    have := prtT_len h8 i (by omega)
    have := h8 _ (List.getElem_mem hlt)
    exact Nat.mul_le_mul (by omega) (by omega)
theorem prtT_mem {cs : List Nat} : ∀ i : Nat, i ≤ cs.length → ∀ u ∈ prtT cs i, u.length = i
  | 0, _, u, hu => by
    have e : u = [] := by simpa [prtT] using hu
    rw [e]
    rfl
  | i + 1, hi, u, hu => by
    have hlt : i < cs.length := by omega
    rw [prtT_succ (List.getElem?_eq_getElem hlt)] at hu
    exact prt1_mem_len (prtT_mem i (by omega)) u hu
theorem mvd_get {cs st : List Nat} {i : Nat} (h : i + 1 < cs.length) : (mvd cs st).getD (i + 1) 0 = st.getD (i + 1) 0 + cs.getD i 0 - st.getD i 0 := by
  unfold mvd
  show ((List.range (cs.length - 1)).map _).getD i 0 = _
  rw [List.getD_eq_getElem?_getD, List.getElem?_map, List.getElem?_range (by omega)]
  rfl
theorem mvd_len {cs st : List Nat} (h : 1 ≤ cs.length) : (mvd cs st).length = cs.length := by
  unfold mvd
  rw [List.length_cons, List.length_map, List.length_range]
  omega
theorem lft_len {cs st : List Nat} (h : st.length = cs.length) : (lft cs st).length = cs.length := by
  unfold lft
  rw [List.length_zipWith, h, Nat.min_self]
theorem Tk.lft {t cs : List Nat} (h : Tk t cs) : Tk (LA.lft cs t) cs := by
  induction h with
  | nil => exact .nil
  | cons h _ ih => exact .cons (Nat.sub_le _ _) ih
theorem mvd_sum : ∀ {t cs : List Nat}, Tk t cs → cs.length ≤ 3 → (mvd cs t).sum ≤ cs.sum
  | _, _, .nil, _ => by simp [mvd]
  | _, _, .cons (t := a) (c := x) h .nil, _ => by
    show ([a] : List Nat).sum ≤ ([x] : List Nat).sum
    simp
    try omega
  | _, _, .cons (t := a) (c := x) h (.cons (t := b) (c := y) h2 .nil), _ => by
    show ([a, b + x - a] : List Nat).sum ≤ ([x, y] : List Nat).sum
    simp
    try omega
  | _, _, .cons (t := a) (c := x) h (.cons (t := b) (c := y) h2 (.cons (t := c) (c := z) h3 .nil)), _ => by
    show ([a, b + x - a, c + y - b] : List Nat).sum ≤ ([x, y, z] : List Nat).sum
    simp
    try omega
  | _, _, .cons _ (.cons _ (.cons _ (.cons _ _))), hl => by
    simp at hl
theorem le_sum : ∀ {cs : List Nat} {c : Nat}, c ∈ cs → c ≤ cs.sum
  | x :: r, c, h => by
    rw [List.sum_cons]
    rcases List.mem_cons.mp h with e | h
    · omega
    · have := le_sum h
      omega
theorem find_none_snoc {α : Type} {p : α → Bool} : ∀ {l : List α} {i : Nat} {x : α}, l[i]? = some x → (l.take i).find? p = none → p x = true → l.find? p = some x
  | [], i, x, h, _, _ => by simp at h
  | y :: r, 0, x, h, _, hp => by
    obtain rfl : y = x := Option.some.inj h
    rw [List.find?_cons, hp]
  | y :: r, i + 1, x, h, hn, hp => by
    rw [List.take_succ_cons, List.find?_cons] at hn
    cases hy : p y with
    | true =>
      rw [hy] at hn
      cases hn
    | false =>
      rw [hy] at hn
      rw [List.find?_cons, hy]
      exact find_none_snoc (l := r) h hn hp
theorem find_take_succ {α : Type} {p : α → Bool} {l : List α} {i : Nat} {x : α} (h : l[i]? = some x) (hn : (l.take i).find? p = none) (hp : p x = false) : (l.take (i + 1)).find? p = none := by
  rw [List.take_add_one, h, Option.toList_some, List.find?_append, hn]
  simp [hp]
/-! ### zip of two tuples in a comprehension -/
theorem zip_turns {K : PySem.W.Frag} {a b D : Addr} {xs ys : List V} {g : TG} {te : TE} {vs : List Nat} {σ : L2.St} {H1 : Hp} {Qd : Hp → Prop} (hl : xs.length = ys.length) (Z : Nat → Hp → Prop) (h0 : Z 0 (upd H1 D (.lst []))) (hq : ∀ i G, Z i G → SqT K G a xs ∧ SqT K G b ys)
    (hs : ∀ i x y T G, xs[i]? = some x → ys[i]? = some y → Z i G → G T = none → g (.ref T) (wipe σ vs) (upd G T (.tup [x, y])) fun σ2 G2 => wipe σ2 vs = wipe σ vs ∧ te σ2 G2 fun z G4 => ∃ acc, G4 D = some (.lst acc) ∧ acc.length < sizeLine ∧ Z (i + 1) (upd G4 D (.lst (acc ++ [z])))) (hd : ∀ G, Z xs.length G → Qd G) :
    ∃ U : Nat → Nat → Hp → Prop, (∃ m, U 0 m (upd H1 D (.lst []))) ∧ ∀ i m G, U i m G → ((RZ.ItzT K a b).stop i G ∧ Qd G) ∨ ((RZ.ItzT K a b).go i G ∧ ∃ Nx : Hp → Prop, (∀ G', Nx G' → ∃ m', m' < m ∧ U (i + 1) m' G') ∧
      ∀ x G', (RZ.ItzT K a b).yld i G x G' → g x (wipe σ vs) G' fun σ2 G2 => wipe σ2 vs = wipe σ vs ∧ tYes σ2 G2 fun t G3 => if t = true then te σ2 G3 fun z G4 => ∃ acc, G4 D = some (.lst acc) ∧ acc.length < sizeLine ∧ Nx (upd G4 D (.lst (acc ++ [z]))) else Nx G3) := by
  refine ⟨fun i m G => i ≤ xs.length ∧ m + i = xs.length ∧ Z i G, ⟨xs.length, Nat.zero_le _, rfl, h0⟩, ?_⟩
  rintro i m G ⟨hi, hm, z⟩
  obtain ⟨qx, qy⟩ := hq i G z
  rcases Nat.lt_or_ge i xs.length with hlt | hge
  · have hlt2 : i < ys.length := by omega
    refine .inr ⟨⟨xs, ys, xs[i], ys[i], qx, qy, List.getElem?_eq_getElem hlt, List.getElem?_eq_getElem hlt2⟩, Z (i + 1), fun G' z' => ⟨m - 1, by omega, hlt, by omega, z'⟩, ?_⟩
    rintro x G' ⟨T, x', y', rfl, nT, rfl, f1, f2⟩
    exact hs i x' y' T G (f1 xs qx) (f2 ys qy) z nT
  · have e : i = xs.length := by omega
    subst e
    exact .inl ⟨⟨xs, ys, qx, qy, Or.inl (Nat.le_refl _)⟩, hd G z⟩
/-- [e for x, y in zip(t, u)], ints -/
theorem el_zip {K : PySem.W.Frag} {σ : L2.St} {H : Hp} {ta tb te : TE} {i j : Nat} {vs : List Nat} {a b : Addr} {as bs : List Int} (f : Int → Int → Int) (ha : Ev ta σ H (.ref a)) (hb : Ev tb σ H (.ref b)) (hA : H a = some (.tup (as.map V.int))) (hB : H b = some (.tup (bs.map V.int))) (hl : as.length = bs.length) (hz : as.length ≤ 1000)
    (hw : ∀ x y, wipe (((wipe σ vs).set i (some x)).set j (some y)) vs = wipe σ vs) (he : ∀ (x y : Int) G, Ev te (((wipe σ vs).set i (some (.int x))).set j (some (.int y))) G (.int (f x y))) :
    EvL (tLc (RZ.iZipA K (tCons ta (tCons tb tNil))) (gTup K 2 (gCons (gName i) (gCons (gName j) gNil))) tYes te vs) σ H ((List.zipWith f as bs).map V.int) := fun H0 e Q k => ha H0 e _ fun H1 e1 => hb H1 (e.trans e1) _ fun H2 e2 => by
  have e12 := (e.trans e1).trans e2
  refine ⟨a, b, as.map V.int, bs.map V.int, rfl, .inr ⟨st_of (e12 _ _ hA), st_of (e12 _ _ hB), fun D nD => ?_⟩⟩
  refine zip_turns (xs := as.map V.int) (ys := bs.map V.int) (by rw [len_map, len_map, hl]) (fun n G => Ex H2 G ∧ G D = some (.lst (((List.zipWith f as bs).take n).map V.int))) ⟨Ex.new nD, upd_same⟩ (fun n G z => ⟨st_of ((e12.trans z.1) _ _ hA), st_of ((e12.trans z.1) _ _ hB)⟩) (fun n x y T G hx hy z nT => ?_) (fun G z => ?_)
  · obtain ⟨p1, p2⟩ := z
    rw [List.getElem?_map] at hx hy
    cases qa : as[n]? with
    | none =>
      rw [qa] at hx
      cases hx
    | some u =>
      cases qb : bs[n]? with
      | none =>
        rw [qb] at hy
        cases hy
      | some v =>
        rw [qa] at hx
        rw [qb] at hy
        obtain rfl : V.int u = x := Option.some.inj hx
        obtain rfl : V.int v = y := Option.some.inj hy
        have hn : n < as.length := (List.getElem?_eq_some_iff.mp qa).1
        refine ⟨T, _, rfl, st_of upd_same, rfl, _, _, rfl, _, [], rfl, rfl, hw _ _, ?_⟩
        refine he u v _ _ (Ex.refl _) _ fun G4 e4 => ?_
        have eT := (Ex.new (o := .tup [.int u, .int v]) nT).trans e4
        refine ⟨_, eT _ _ p2, ?_, Ex.mut (p1.trans eT) nD, ?_⟩
        · rw [len_map, List.length_take]
          exact small1000 (by rw [List.length_zipWith]; omega)
        · rw [upd_same, List.take_add_one, List.getElem?_zipWith, qa, qb, Option.toList_some, List.map_append]
          rfl
  · obtain ⟨p1, p2⟩ := z
    rw [List.take_of_length_le (by rw [len_map, List.length_zipWith]; omega)] at p2
    exact k D G (fresh_back (e1.trans e2) nD) ((e1.trans e2).trans p1) p2
theorem zip_lft : ∀ {cs t : List Nat}, Tk t cs → List.zipWith (fun x y => x - y) (ic cs) (ic t) = ic (lft cs t)
  | _, _, .nil => rfl
  | _, _, .cons (t := a) (c := x) h r => by
    show ((x : Int) - (a : Int)) :: _ = ((x - a : Nat) : Int) :: _
    have e : ((x : Int) - (a : Int)) = ((x - a : Nat) : Int) := by omega
    rw [e]
    congr 1
    exact zip_lft r
/-! ### what is known -/
structure VKv (n : Nat) (kvs : Kvs) : Prop where
  nodup : (kvs.map (·.1)).Nodup
  ok : ∀ p ∈ kvs, ∃ (cs : List Nat) (q : Nat), p.1 = (ic cs, (q : Int)) ∧ cs.length = n ∧ cs.sum ≤ 8 ∧ q ≤ 24 ∧ p.2 = En q cs
theorem VKv.nil (n : Nat) : VKv n [] := ⟨List.nodup_nil, fun _ h => nomatch h⟩
theorem lk_mem {kvs : Kvs} {k : Ky} {b : Bool} (h : lkN kvs k = some b) : (k, b) ∈ kvs := by
  unfold lkN at h
  obtain ⟨p, hp, rfl⟩ := Option.map_eq_some_iff.mp h
  have e : p.1 = k := by simpa using List.find?_some hp
  subst e
  exact List.mem_of_find?_eq_some hp
theorem lk_none {kvs : Kvs} {k : Ky} (h : lkN kvs k = none) : k ∉ kvs.map (·.1) := fun hm => by
  obtain ⟨p, hp, e⟩ := List.mem_map.mp hm
  unfold lkN at h
  rw [Option.map_eq_none_iff, List.find?_eq_none] at h
  exact h p hp (decide_eq_true e)
theorem lk_put {kvs : Kvs} {k : Ky} {b : Bool} (h : lkN kvs k = none) : lkN (putN kvs k b) k = some b := by
  unfold putN
  rw [h]
  show lkN (kvs ++ [(k, b)]) k = some b
  unfold lkN at h ⊢
  rw [Option.map_eq_none_iff] at h
  rw [List.find?_append, h]
  simp
theorem nodup_snoc {α : Type} : ∀ {l : List α} {x : α}, l.Nodup → x ∉ l → (l ++ [x]).Nodup
  | [], x, _, _ => by simp
  | a :: l, x, h, hx => by
    obtain ⟨h1, h2⟩ := List.nodup_cons.mp h
    show (a :: (l ++ [x])).Nodup
    refine List.nodup_cons.mpr ⟨fun m => ?_, nodup_snoc h2 fun m => hx (List.mem_cons_of_mem _ m)⟩
    rcases List.mem_append.mp m with m | m
    · exact h1 m
    · exact hx (List.mem_cons.mpr (Or.inl (List.mem_singleton.mp m).symm))
theorem VKv.put {n : Nat} {kvs : Kvs} (h : VKv n kvs) {cs : List Nat} {q : Nat} (hk : lkN kvs (ic cs, (q : Int)) = none) (h1 : cs.length = n) (h2 : cs.sum ≤ 8) (h3 : q ≤ 24) : VKv n (putN kvs (ic cs, (q : Int)) (En q cs)) := by
  unfold putN
  rw [hk]
  show VKv n (kvs ++ [((ic cs, (q : Int)), En q cs)])
  refine ⟨?_, fun p hp => ?_⟩
  · rw [List.map_append]
    exact nodup_snoc h.nodup (lk_none hk)
  · rcases List.mem_append.mp hp with hp | hp
    · exact h.ok p hp
    · obtain rfl : p = _ := List.mem_singleton.mp hp
      exact ⟨cs, q, rfl, h1, h2, h3, rfl⟩
theorem VKv.get {n : Nat} {kvs : Kvs} (h : VKv n kvs) {cs : List Nat} {q : Nat} {b : Bool} (hk : lkN kvs (ic cs, (q : Int)) = some b) : b = En q cs := by
  obtain ⟨cs', q', e, _, _, _, eb⟩ := h.ok _ (lk_mem hk)
  have e1 : ic cs = ic cs' := congrArg Prod.fst e
  have e2 : (q : Int) = (q' : Int) := congrArg Prod.snd e
  have e3 := ic_inj e1
  have e4 : q = q' := by omega
  subst e3 e4
  exact eb
/-! no more keys than there are -/
theorem nodup_le {α : Type} [DecidableEq α] : ∀ {l u : List α}, l.Nodup → (∀ x ∈ l, x ∈ u) → l.length ≤ u.length
  | [], _, _, _ => Nat.zero_le _
  | x :: l, u, h, hs => by
    obtain ⟨h1, h2⟩ := List.nodup_cons.mp h
    have hx := hs x List.mem_cons_self
    have ih := nodup_le (l := l) (u := u.erase x) h2 fun y hy => by
      have hne : y ≠ x := fun z => h1 (z ▸ hy)
      exact (List.mem_erase_of_ne hne).mpr (hs y (List.mem_cons_of_mem _ hy))
    rw [List.length_erase_of_mem hx] at ih
    have := List.length_pos_of_mem hx
    rw [List.length_cons]
    omega
def allL (k : Nat) : Nat → List (List Nat)
  | 0 => [[]]
  | n + 1 => (allL k n).flatMap fun l => (List.range k).map fun x => x :: l
theorem flat_len {α β : Type} (f : α → List β) (c : Nat) : ∀ l : List α, (∀ x ∈ l, (f x).length = c) → (l.flatMap f).length = l.length * c
  | [], _ => by simp
  | x :: l, h => by
    rw [List.flatMap_cons, List.length_append, h x List.mem_cons_self, flat_len f c l fun y hy => h y (List.mem_cons_of_mem _ hy), List.length_cons, Nat.add_mul]
    omega
theorem allL_len (k : Nat) : ∀ n : Nat, (allL k n).length = k ^ n
  | 0 => rfl
  | n + 1 => by
    show ((allL k n).flatMap _).length = _
    rw [flat_len _ k _ (fun l _ => by simp), allL_len k n, Nat.pow_succ]
theorem mem_allL {k : Nat} : ∀ {l : List Nat}, (∀ x ∈ l, x < k) → l ∈ allL k l.length
  | [], _ => by simp [allL]
  | x :: l, h => by
    show (x :: l) ∈ (allL k l.length).flatMap _
    refine List.mem_flatMap.mpr ⟨l, mem_allL fun y hy => h y (List.mem_cons_of_mem _ hy), ?_⟩
    exact List.mem_map.mpr ⟨x, List.mem_range.mpr (h x List.mem_cons_self), rfl⟩
theorem VKv.len {n : Nat} {kvs : Kvs} (h : VKv n kvs) (hn : n ≤ 3) : kvs.length ≤ 20000 := by
  have z := nodup_le (u := (allL 9 n).flatMap fun cs => (List.range 25).map fun (q : Nat) => ((ic cs, (q : Int)) : Ky)) h.nodup (fun k hk => by
    obtain ⟨p, hp, rfl⟩ := List.mem_map.mp hk
    obtain ⟨cs, q, e, h1, h2, h3, _⟩ := h.ok p hp
    rw [e]
    refine List.mem_flatMap.mpr ⟨cs, ?_, List.mem_map.mpr ⟨q, List.mem_range.mpr (by omega), rfl⟩⟩
    rw [← h1]
    exact mem_allL fun x hx => by
      have := le_sum hx
      omega)
  rw [flat_len _ 25 _ (fun l _ => by simp), allL_len, List.length_map] at z
  have : 9 ^ n ≤ 9 ^ 3 := Nat.pow_le_pow_right (by omega) hn
  omega
/-! a heap in which the dict at d alone changed -/
section
variable {H H1 H2 : Hp} {d c : Addr} {o : HO}
theorem keep_at (e : Ex (hid H d) (hid H1 d)) (h : H c = some o) (n : c ≠ d) : H1 c = some o := ex_hid H1 d _ _ (e _ _ (hid_at h n))
theorem tups_keep (e : Ex (hid H d) (hid H1 d)) {φ : Heap → Prop} (hd : H d = some (.ext φ)) {rs : List Addr} {us : List (List Nat)} (h : TupsAt H rs us) : TupsAt H1 rs us := by
  induction h with
  | nil => exact .nil
  | cons h _ ih => exact .cons (keep_at e h fun z => by rw [z, hd] at h; cases h) ih
theorem key_keep (e : Ex (hid H d) (hid H1 d)) {φ : Heap → Prop} (hd : H d = some (.ext φ)) {a : Addr} {k : Ky} (h : KeyAt H a k) : KeyAt H1 a k := by
  obtain ⟨c, h1, h2⟩ := h
  exact ⟨c, keep_at e h1 (fun z => by rw [z, hd] at h1; cases h1), keep_at e h2 (fun z => by rw [z, hd] at h2; cases h2)⟩
end
theorem DN.at {P : Program} {w : World} {H : Hp} {d : Addr} {kvs : Kvs} (h : DN P w H d kvs) : ∃ φ, H d = some (.ext φ) := by
  obtain ⟨xs, e, _⟩ := h
  exact ⟨_, e⟩
section
variable {P : Program} {w : World} {H : Hp} {a d : Addr} {k : Ky} {kvs : Kvs}
theorem rv_notInN (hk : KeyAt H a k) (hd : DN P w H d kvs) : RV (rInN P w true) (.ref a) (.ref d) H (.bl (!(lkN kvs k).isSome)) := fun H1 e Q q => ⟨a, d, k, kvs, rfl, rfl, hk.ex e, hd.ex e, q H1 (Ex.refl H1)⟩
theorem rv_inN (hk : KeyAt H a k) (hd : DN P w H d kvs) : RV (rInN P w false) (.ref a) (.ref d) H (.bl (lkN kvs k).isSome) := fun H1 e Q q => ⟨a, d, k, kvs, rfl, rfl, hk.ex e, hd.ex e, q H1 (Ex.refl H1)⟩
theorem rv_getN {b : Bool} (hk : KeyAt H a k) (hd : DN P w H d kvs) (hb : lkN kvs k = some b) : RV (rGetN P w) (.ref d) (.ref a) H (.bl b) := fun H1 e Q q => ⟨a, d, k, kvs, b, rfl, rfl, hk.ex e, hd.ex e, hb, q H1 (Ex.refl H1)⟩
end
theorem En_found {cs : List Nat} (h : cs.sum ≤ 1) : ∀ q : Nat, En q cs = true
  | 0 => decide_eq_true h
  | q + 1 => by
    unfold En
    rw [decide_eq_true h]
    rfl
theorem En_not {cs : List Nat} {q : Nat} (h : ¬ cs.sum ≤ 1) (h2 : q = 0 ∨ heavy cs q = true) : En q cs = false := by
  cases q with
  | zero => exact decide_eq_false h
  | succ q =>
    have h3 : heavy cs (q + 1) = true := h2.resolve_left (by omega)
    unfold En
    rw [decide_eq_false h, h3]
    rfl
theorem En_spl {cs : List Nat} {q : Nat} (h : ¬ cs.sum ≤ 1) (h2 : heavy cs (q + 1) = false) : En (q + 1) cs = (spl q cs).isSome := by
  rw [spl_E, decide_eq_false h, h2]
  rfl
theorem putN_over {kvs : Kvs} {k : Ky} {b : Bool} (h : lkN kvs k = some b) (hn : (kvs.map (·.1)).Nodup) : putN kvs k b = kvs := by
  unfold putN
  rw [h]
  show kvs.map (fun p => if p.1 = k then (p.1, b) else p) = kvs
  have hm := lk_mem h
  conv => rhs; rw [← List.map_id' kvs]
  refine List.map_congr_left fun p hp => ?_
  by_cases e : p.1 = k
  · rw [if_pos e]
    subst e
    obtain ⟨i, hi, ei⟩ := List.getElem_of_mem hp
    obtain ⟨j, hj, ej⟩ := List.getElem_of_mem hm
    have q : i = j := by
      refine (List.getElem_inj (xs := kvs.map (·.1)) (h₀ := by simpa using hi) (h₁ := by simpa using hj) hn).mp ?_
      rw [List.getElem_map, List.getElem_map, ei, ej]
    subst q
    rw [ei] at ej
    exact ej.symm
  · rw [if_neg e]
theorem VKv.over {n : Nat} {kvs : Kvs} {k : Ky} {b : Bool} (h : VKv n kvs) (hl : lkN kvs k = some b) : VKv n (putN kvs k b) := by
  rw [putN_over hl h.nodup]
  exact h
theorem VKv.lk_over {n : Nat} {kvs : Kvs} {k : Ky} {b : Bool} (h : VKv n kvs) (hl : lkN kvs k = some b) : lkN (putN kvs k b) k = some b := by
  rw [putN_over hl h.nodup]
  exact hl
/-- an expression whose value is the list at p -/
def ELv (te : TE) (σ : L2.St) (H : Hp) (p : Addr) (xs : List V) : Prop := ∀ H1, Ex H H1 → ∀ Q : VK, (∀ H2, Ex H1 H2 → H2 p = some (.lst xs) → Q (.ref p) H2) → te σ H1 Q
theorem eu_tupV {K : PySem.W.Frag} {σ : L2.St} {H : Hp} {ta : TE} {p : Addr} {xs : List V} (ha : ELv ta σ H p xs) : EvU (tCB (rTupS K) (tCons ta tNil)) σ H xs := fun H1 e Q q =>
  ha H1 e _ fun H2 e2 h2 => ⟨p, xs, rfl, Or.inl ⟨sq_of h2, fun l hl => q l _ (fresh_back e2 hl) (e2.trans (Ex.new hl)) upd_same⟩⟩
section
variable {K : PySem.W.Frag} {σ : L2.St} {H : Hp}
/-- a name of a list, where a new list would do -/
theorem el_var {i : Nat} {p : Addr} {xs : List V} (h : σ[i]? = some (some (.ref p))) (hp : H p = some (.lst xs)) : ELv (tVar i) σ H p xs := fun H1 e Q q => ⟨_, h, q H1 (Ex.refl H1) (e _ _ hp)⟩
end
theorem ex_of_hid {H G H' : Hp} {d : Addr} (e : Ex H G) (n : H d = none) (h : Ex (hid G d) (hid H' d)) : Ex H H' := fun b o hb =>
  keep_at h (e _ _ hb) fun z => by rw [z, n] at hb; cases hb
def lg (n : Nat) : Nat := if n ≤ 1 then 0 else if n ≤ 2 then 1 else if n ≤ 4 then 2 else 3
theorem lg_need : ∀ n : _root_.Fin 9, needC [n.val] = lg n.val := by decide +kernel
theorem lg_nd {m : List Int} (h : m.length ≤ 8) : nd 0 m = lg (m.count 0) := by
  have hc : m.count 0 ≤ 8 := Nat.le_trans List.count_le_length h
  have z := lg_need ⟨m.count 0, by omega⟩
  exact z
theorem lg_step {n i : Nat} (hn : n ≤ 8) (hi : i ≤ lg n) : (2 ^ i < n) = (i < lg n) := by
  have h9 : n = 0 ∨ n = 1 ∨ n = 2 ∨ n = 3 ∨ n = 4 ∨ n = 5 ∨ n = 6 ∨ n = 7 ∨ n = 8 := by omega
  have h4 : i = 0 ∨ i = 1 ∨ i = 2 ∨ i = 3 := by
    unfold lg at hi
    split at hi
    · omega
    · split at hi
      · omega
      · split at hi <;> omega
  rcases h9 with rfl | rfl | rfl | rfl | rfl | rfl | rfl | rfl | rfl <;> rcases h4 with rfl | rfl | rfl | rfl <;> simp [lg] at hi ⊢
/-! ### a question as its things -/
def ixs (bs : List Bool) : List Int := ((List.range bs.length).filter fun i => bs.getD i false).map fun (i : Nat) => (i : Int)
theorem ixs_snoc (bs : List Bool) (b : Bool) : ixs (bs ++ [b]) = if b = true then ixs bs ++ [(bs.length : Int)] else ixs bs := by
  unfold ixs
  rw [List.length_append, List.length_singleton, List.range_succ, List.filter_append, List.map_append]
  have e : (List.range bs.length).filter (fun i => (bs ++ [b]).getD i false) = (List.range bs.length).filter fun i => bs.getD i false := List.filter_congr fun i hi => by
    have := List.mem_range.mp hi
    rw [List.getD_eq_getElem?_getD, List.getElem?_append_left this, List.getD_eq_getElem?_getD]
  have e2 : (bs ++ [b]).getD bs.length false = b := by
    rw [List.getD_eq_getElem?_getD, List.getElem?_append_right (Nat.le_refl _), Nat.sub_self]
    rfl
  rw [e, List.filter_cons, e2]
  cases b <;> simp
theorem mem_ixs {bs : List Bool} {x : Int} : x ∈ ixs bs ↔ ∃ i : Nat, x = (i : Int) ∧ i < bs.length ∧ bs.getD i false = true := by
  unfold ixs
  constructor
  · intro h
    obtain ⟨i, hi, rfl⟩ := List.mem_map.mp h
    obtain ⟨h1, h2⟩ := List.mem_filter.mp hi
    exact ⟨i, rfl, List.mem_range.mp h1, h2⟩
  · rintro ⟨i, rfl, h1, h2⟩
    exact List.mem_map.mpr ⟨i, List.mem_filter.mpr ⟨List.mem_range.mpr h1, h2⟩, rfl⟩
theorem qb_ixs (bs : List Bool) : qb (ixs bs) bs.length = bs := by
  unfold qb
  refine List.ext_getElem? fun i => ?_
  rw [List.getElem?_map]
  by_cases hi : i < bs.length
  · rw [List.getElem?_range hi, List.getElem?_eq_getElem hi]
    show some (hasI (ixs bs) (i : Int)) = some bs[i]
    congr 1
    unfold hasI
    rw [Bool.eq_iff_iff, decide_eq_true_eq, mem_ixs]
    have e : bs.getD i false = bs[i] := by
      rw [List.getD_eq_getElem?_getD, List.getElem?_eq_getElem hi]
      rfl
    constructor
    · rintro ⟨j, hj, _, h⟩
      have hij : i = j := by omega
      subst hij
      rwa [e] at h
    · intro h
      exact ⟨i, rfl, hi, by rw [e]; exact h⟩
  · rw [List.getElem?_eq_none (by simp; omega), List.getElem?_eq_none (by omega)]
    rfl
theorem ixs_rise : ∀ (n : Nat) (bs : List Bool), bs.length = n → Rise (-1) (ixs bs) (n : Int)
  | 0, bs, h => by
    have e : bs = [] := List.length_eq_zero_iff.mp h
    subst e
    trivial
  | n + 1, bs, h => by
    obtain ⟨pre, b, rfl⟩ : ∃ pre b, bs = pre ++ [b] := ⟨bs.dropLast, bs.getLast (fun z => by rw [z] at h; cases h), (List.dropLast_concat_getLast _).symm⟩
    have hp : pre.length = n := by
      rw [List.length_append, List.length_singleton] at h
      omega
    have ih := ixs_rise n pre hp
    rw [ixs_snoc]
    split
    · rw [hp]
      exact rise_snoc ih (by omega) (Int.le_refl _) fun x hx => (rise_mem ih x hx).2
    · exact rise_up ih (by omega)
theorem ixs_len (bs : List Bool) : (ixs bs).length ≤ bs.length := by
  unfold ixs
  rw [List.length_map]
  have z := List.length_filter_le (fun i => bs.getD i false) (List.range bs.length)
  rwa [List.length_range] at z
theorem afq_ixs {L : Int} {m : List Int} {bs : List Bool} (h : bs.length = m.length) (y : Bool) : afq L m (ixs bs) y = aft L m bs y := by
  rw [afq_aft, ← h, qb_ixs]
theorem ic_set (t : List Nat) (k v : Nat) : (ic t).set k (v : Int) = ic (t.set k v) := by
  unfold ic
  rw [List.map_set]
theorem rise_get {n : Int} : ∀ {qs : List Int} {b : Int}, Rise b qs n → ∀ {i : Nat}, i < qs.length → b < qs.getD i 0 ∧ qs.getD i 0 < n ∧ (0 < i → qs.getD (i - 1) 0 < qs.getD i 0)
  | [], _, _, i, h => by simp at h
  | x :: r, b, ⟨h1, h2, h3⟩, 0, _ => ⟨h1, h2, fun z => absurd z (by omega)⟩
  | x :: r, b, ⟨h1, h2, h3⟩, i + 1, h => by
    have hi : i < r.length := by
      rw [List.length_cons] at h
      omega
    obtain ⟨g1, g2, g3⟩ := rise_get h3 hi
    refine ⟨?_, g2, fun _ => ?_⟩
    · show b < r.getD i 0
      omega
    · cases i with
      | zero => exact g1
      | succ i => exact g3 (by omega)
end LA


namespace LW
open PySem PySem.Spec PyProof.Rows L2 Evl LA TL
local macro_rules | `(tactic| walk_at "ev") => `(tactic| repeat' (first
  | exact ev_c
  | exact ev_var rfl
  | exact ea_nil
  | exact eo_none
  | refine' ea_cons ?_ ?_
  | refine' eo_some ?_
  | refine' ev_op ?_ ?_ rv_I0
  | refine' ev_op ?_ ?_ rv_eqI
  | refine' ev_op ?_ ?_ rv_neI
  | refine' ev_op ?_ ?_ rv_eqB
  | refine' ev_op ?_ ?_ rv_neB
  | refine' ev_op ?_ ?_ rv_isN
  | refine' ev_op ?_ ?_ rv_notN
  | refine' ev_op ?_ ?_ (rv_I ?_)
  | refine' ev_un ?_ ru_neg
  | refine' et_test ?_
  | refine' et_B ?_
  | refine' et_not ?_
  | refine' ev_notV ?_))

def topS (i : Nat) : Stmt := PySem.Challenge.pw_lieask_k12_refused.main.body.getD i (.Pass ⟨0, 0, 0, 0⟩)
abbrev s_asked_lies : Stmt := topS 10
abbrev n_asked_lies : List Str := ["lies"]
theorem sc_asked_lies : FnScope n_asked_lies ["lies"] (defScope s_asked_lies) := ⟨rfl, rfl, rfl, by decide +kernel, rfl, by decide +kernel, by decide +kernel⟩
abbrev s_asked_marks : Stmt := topS 11
abbrev n_asked_marks : List Str := ["marks", "lies", "mark"]
theorem sc_asked_marks : FnScope n_asked_marks ["marks", "lies"] (defScope s_asked_marks) := ⟨rfl, rfl, rfl, by decide +kernel, rfl, by decide +kernel, by decide +kernel⟩
abbrev s_asked_question : Stmt := topS 12
abbrev n_asked_question : List Str := ["things", "question", "before", "thing"]
theorem sc_asked_question : FnScope n_asked_question ["things", "question"] (defScope s_asked_question) := ⟨rfl, rfl, rfl, by decide +kernel, rfl, by decide +kernel, by decide +kernel⟩
abbrev s_begun : Stmt := topS 13
abbrev n_begun : List Str := ["things", "thing"]
theorem sc_begun : FnScope n_begun ["things"] (defScope s_begun) := ⟨rfl, rfl, rfl, by decide +kernel, rfl, by decide +kernel, by decide +kernel⟩
abbrev s_behind : Stmt := topS 14
abbrev n_behind : List Str := ["marks", "lies", "question", "yes", "found", "thing", "lie"]
theorem sc_behind : FnScope n_behind ["marks", "lies", "question", "yes"] (defScope s_behind) := ⟨rfl, rfl, rfl, by decide +kernel, rfl, by decide +kernel, by decide +kernel⟩
abbrev s_after : Stmt := topS 15
abbrev n_after : List Str := ["marks", "lies", "asked", "yes"]
theorem sc_after : FnScope n_after ["marks", "lies", "asked", "yes"] (defScope s_after) := ⟨rfl, rfl, rfl, by decide +kernel, rfl, by decide +kernel, by decide +kernel⟩
abbrev s_standing : Stmt := topS 16
abbrev n_standing : List Str := ["marks", "lies", "thing"]
theorem sc_standing : FnScope n_standing ["marks", "lies"] (defScope s_standing) := ⟨rfl, rfl, rfl, by decide +kernel, rfl, by decide +kernel, by decide +kernel⟩
abbrev s_marked : Stmt := topS 17
abbrev n_marked : List Str := ["things", "lies", "talk", "found", "question", "yes"]
theorem sc_marked : FnScope n_marked ["things", "lies", "talk"] (defScope s_marked) := ⟨rfl, rfl, rfl, by decide +kernel, rfl, by decide +kernel, by decide +kernel⟩
abbrev s_picks : Stmt := topS 20
abbrev n_picks : List Str := ["total", "some", "ways", "k"]
theorem sc_picks : FnScope n_picks ["total", "some"] (defScope s_picks) := ⟨rfl, rfl, rfl, by decide +kernel, rfl, by decide +kernel, by decide +kernel⟩
abbrev s_ways_left : Stmt := topS 21
abbrev n_ways_left : List Str := ["lies", "many", "some"]
theorem sc_ways_left : FnScope n_ways_left ["lies", "many"] (defScope s_ways_left) := ⟨rfl, rfl, rfl, by decide +kernel, rfl, by decide +kernel, by decide +kernel⟩
abbrev s_weight : Stmt := topS 22
abbrev n_weight : List Str := ["marks", "lies", "many", "mark"]
theorem sc_weight : FnScope n_weight ["marks", "lies", "many"] (defScope s_weight) := ⟨rfl, rfl, rfl, by decide +kernel, rfl, by decide +kernel, by decide +kernel⟩
abbrev s_counted : Stmt := topS 24
abbrev n_counted : List Str := ["marks", "lies", "mark"]
theorem sc_counted : FnScope n_counted ["marks", "lies"] (defScope s_counted) := ⟨rfl, rfl, rfl, by decide +kernel, rfl, by decide +kernel, by decide +kernel⟩
abbrev s_parts : Stmt := topS 25
abbrev n_parts : List Str := ["counts", "found", "count", "longer", "taken", "some"]
theorem sc_parts : FnScope n_parts ["counts"] (defScope s_parts) := ⟨rfl, rfl, rfl, by decide +kernel, rfl, by decide +kernel, by decide +kernel⟩
abbrev s_moved : Stmt := topS 26
abbrev n_moved : List Str := ["counts", "stay", "found", "mark"]
theorem sc_moved : FnScope n_moved ["counts", "stay"] (defScope s_moved) := ⟨rfl, rfl, rfl, by decide +kernel, rfl, by decide +kernel, by decide +kernel⟩
abbrev s_heavy : Stmt := topS 27
abbrev n_heavy : List Str := ["counts", "many", "rows", "k", "lies", "mark"]
theorem sc_heavy : FnScope n_heavy ["counts", "many"] (defScope s_heavy) := ⟨rfl, rfl, rfl, by decide +kernel, rfl, by decide +kernel, by decide +kernel⟩
abbrev s_enough : Stmt := topS 28
abbrev n_enough : List Str := ["counts", "many", "known", "key"]
theorem sc_enough : FnScope n_enough ["counts", "many", "known"] (defScope s_enough) := ⟨rfl, rfl, rfl, by decide +kernel, rfl, by decide +kernel, by decide +kernel⟩
abbrev s_split : Stmt := topS 29
abbrev n_split : List Str := ["counts", "many", "known", "taken", "left", "count", "some"]
theorem sc_split : FnScope n_split ["counts", "many", "known"] (defScope s_split) := ⟨rfl, rfl, rfl, by decide +kernel, rfl, by decide +kernel, by decide +kernel⟩
abbrev s_need : Stmt := topS 30
abbrev n_need : List Str := ["marks", "lies", "counts", "known", "many"]
theorem sc_need : FnScope n_need ["marks", "lies"] (defScope s_need) := ⟨rfl, rfl, rfl, by decide +kernel, rfl, by decide +kernel, by decide +kernel⟩
abbrev s_question : Stmt := topS 31
abbrev n_question : List Str := ["marks", "lies", "many", "taken", "found", "thing"]
theorem sc_question : FnScope n_question ["marks", "lies"] (defScope s_question) := ⟨rfl, rfl, rfl, by decide +kernel, rfl, by decide +kernel, by decide +kernel⟩
abbrev s_answer : Stmt := topS 32
abbrev n_answer : List Str := ["marks", "lies", "asked"]
theorem sc_answer : FnScope n_answer ["marks", "lies", "asked"] (defScope s_answer) := ⟨rfl, rfl, rfl, by decide +kernel, rfl, by decide +kernel, by decide +kernel⟩
abbrev s_shown : Stmt := topS 35
abbrev n_shown : List Str := ["marks", "lies", "mark"]
theorem sc_shown : FnScope n_shown ["marks", "lies"] (defScope s_shown) := ⟨rfl, rfl, rfl, by decide +kernel, rfl, by decide +kernel, by decide +kernel⟩
abbrev s__law_cell_at : Stmt := topS 37
abbrev n__law_cell_at : List Str := ["script", "k"]
theorem sc__law_cell_at : FnScope n__law_cell_at ["script", "k"] (defScope s__law_cell_at) := ⟨rfl, rfl, rfl, by decide +kernel, rfl, by decide +kernel, by decide +kernel⟩
abbrev s__law_word_of : Stmt := topS 38
abbrev n__law_word_of : List Str := ["e", "kinds"]
theorem sc__law_word_of : FnScope n__law_word_of ["e"] (defScope s__law_word_of) := ⟨rfl, rfl, rfl, by decide +kernel, rfl, by decide +kernel, by decide +kernel⟩
abbrev s__law_asked_by : Stmt := topS 39
abbrev n__law_asked_by : List Str := ["cell", "things", "found", "thing"]
theorem sc__law_asked_by : FnScope n__law_asked_by ["cell", "things"] (defScope s__law_asked_by) := ⟨rfl, rfl, rfl, by decide +kernel, rfl, by decide +kernel, by decide +kernel⟩
abbrev s__law_called : Stmt := topS 40
abbrev n__law_called : List Str := ["which", "marks", "lies", "asked", "many"]
theorem sc__law_called : FnScope n__law_called ["which", "marks", "lies", "asked", "many"] (defScope s__law_called) := ⟨rfl, rfl, rfl, by decide +kernel, rfl, by decide +kernel, by decide +kernel⟩
abbrev s__law_tried : Stmt := topS 41
abbrev n__law_tried : List Str := ["which", "marks", "lies", "asked", "many", "e"]
theorem sc__law_tried : FnScope n__law_tried ["which", "marks", "lies", "asked", "many"] (defScope s__law_tried) := ⟨rfl, rfl, rfl, by decide +kernel, rfl, by decide +kernel, by decide +kernel⟩
abbrev s__law_bad_marks : Stmt := topS 42
abbrev n__law_bad_marks : List Str := ["marks", "lies", "kind", "cell", "far", "found", "k"]
theorem sc__law_bad_marks : FnScope n__law_bad_marks ["marks", "lies", "kind", "cell"] (defScope s__law_bad_marks) := ⟨rfl, rfl, rfl, by decide +kernel, rfl, by decide +kernel, by decide +kernel⟩
abbrev s__law_bad_question : Stmt := topS 43
abbrev n__law_bad_question : List Str := ["asked", "things", "kind", "cell", "far", "at"]
theorem sc__law_bad_question : FnScope n__law_bad_question ["asked", "things", "kind", "cell"] (defScope s__law_bad_question) := ⟨rfl, rfl, rfl, by decide +kernel, rfl, by decide +kernel, by decide +kernel⟩
abbrev s_law : Stmt := topS 44
abbrev n_law : List Str := ["script", "far", "lies", "things", "marks", "asked", "due", "size", "many", "count_due", "which", "wanted", "k"]
theorem sc_law : FnScope n_law ["script"] (defScope s_law) := ⟨rfl, rfl, rfl, by decide +kernel, rfl, by decide +kernel, by decide +kernel⟩
structure Txt (K : PySem.W.Frag) (mg : Str → Option Value) : Prop where
  f_asked_lies : Fn K mg "asked_lies" s_asked_lies ["lies"]
  f_asked_marks : Fn K mg "asked_marks" s_asked_marks ["marks", "lies"]
  f_asked_question : Fn K mg "asked_question" s_asked_question ["things", "question"]
  f_begun : Fn K mg "begun" s_begun ["things"]
  f_behind : Fn K mg "behind" s_behind ["marks", "lies", "question", "yes"]
  f_after : Fn K mg "after" s_after ["marks", "lies", "asked", "yes"]
  f_standing : Fn K mg "standing" s_standing ["marks", "lies"]
  f_marked : Fn K mg "marked" s_marked ["things", "lies", "talk"]
  f_picks : Fn K mg "picks" s_picks ["total", "some"]
  f_ways_left : Fn K mg "ways_left" s_ways_left ["lies", "many"]
  f_weight : Fn K mg "weight" s_weight ["marks", "lies", "many"]
  f_counted : Fn K mg "counted" s_counted ["marks", "lies"]
  f_parts : Fn K mg "parts" s_parts ["counts"]
  f_moved : Fn K mg "moved" s_moved ["counts", "stay"]
  f_heavy : Fn K mg "heavy" s_heavy ["counts", "many"]
  f_enough : Fn K mg "enough" s_enough ["counts", "many", "known"]
  f_split : Fn K mg "split" s_split ["counts", "many", "known"]
  f_need : Fn K mg "need" s_need ["marks", "lies"]
  f_question : Fn K mg "question" s_question ["marks", "lies"]
  f_answer : Fn K mg "answer" s_answer ["marks", "lies", "asked"]
  f_shown : Fn K mg "shown" s_shown ["marks", "lies"]
  f__law_cell_at : Fn K mg "_law_cell_at" s__law_cell_at ["script", "k"]
  f__law_word_of : Fn K mg "_law_word_of" s__law_word_of ["e"]
  f__law_asked_by : Fn K mg "_law_asked_by" s__law_asked_by ["cell", "things"]
  f__law_called : Fn K mg "_law_called" s__law_called ["which", "marks", "lies", "asked", "many"]
  f__law_tried : Fn K mg "_law_tried" s__law_tried ["which", "marks", "lies", "asked", "many"]
  f__law_bad_marks : Fn K mg "_law_bad_marks" s__law_bad_marks ["marks", "lies", "kind", "cell"]
  f__law_bad_question : Fn K mg "_law_bad_question" s__law_bad_question ["asked", "things", "kind", "cell"]
  c_MOST_THINGS : ∃ t, mg "MOST_THINGS" = some (.int 8 t)
  c_MOST_LIES : ∃ t, mg "MOST_LIES" = some (.int 2 t)
  c_MOST : ∃ t, mg "MOST" = some (.int 100 t)
  c_FIGURES : ∃ t, mg "FIGURES" = some (.str (Str.ofString "012") t)
  b_len : mg "len" = none
  b_range : mg "range" = none
  b_int : mg "int" = none
  b_min : mg "min" = none
  b_sum : mg "sum" = none
  b_list : mg "list" = none
  b_tuple : mg "tuple" = none
  b_zip : mg "zip" = none
  b_isinstance : mg "isinstance" = none
  b_ValueError : mg "ValueError" = none
section
variable {P : Program} {w : World} {K : PySem.W.Frag} {mg : Str → Option Value} {base : Heap}
/-! ### _law_cell_at -/
def spCell (K : PySem.W.Frag) : Sp := fun vs H Q _ => ∃ (a : Addr) (ns : List Int) (k : Int), vs = [.ref a, .int k] ∧ SqL K H a (ns.map V.int) ∧ 0 ≤ k ∧ RetV (.int (cl ns k)) H Q
theorem v_cell {H : Hp} {a : Addr} {ns : List Int} {k : Int} (hS : SqL K H a (ns.map V.int)) (h0 : 0 ≤ k) : SpV (spCell K) [.ref a, .int k] H (.int (cl ns k)) := fun H1 e Q q E => ⟨a, ns, k, rfl, ex_l e hS, h0, q⟩
theorem ok_cell (T : Txt K mg) : Good P w K mg base CX0 1 "_law_cell_at" ["script", "k"] (spCell K) := by
  refine Good.of T.f__law_cell_at sc__law_cell_at (fun vs H Q E h => ?_) (fun f cdv A outer s H vs Q E hr h => ?_)
  · obtain ⟨a, ns, k, rfl, _⟩ := h
    rfl
  obtain ⟨a, ns, k, rfl, hS, h0, q⟩ := h
  refine ⟨_, (pss_cons (ps_if (pt_cmpR op_lt (pv 1) (pe_callB (kc_len (K := K) rfl) (by rfl) T.b_len (by decide +kernel) (pa_cons (pv 0) pa_nil)) (nomark _)) (pss_one (ps_ret (pe_ix (kix_list (K := K) rfl) (pv 0) (pv 1) (fun _ _ => rfl)))) pss_nil)
      (pss_one (ps_ret pe_int))), ?_⟩
  refine q_when (b := decide (k < ((ns.map V.int).length : Int))) (by walk_at "ev"; exact ev_len (ev_var rfl) hS) (fun hb H1 e => ?_) (fun hb H1 e => ?_)
  · have hk : k < (ns.length : Int) := by
      have z := of_decide_eq_true hb
      rwa [len_map] at z
    have hat := at_int (ns := ns) (i := k.toNat) (by omega)
    rw [Int.toNat_of_nonneg h0] at hat
    exact s_ret (ev_op (ev_var rfl) (ev_var rfl) (rv_ixL (ex_l e hS) hat)) fun H2 e2 => q H2 (e.trans e2)
  · have hk : ¬ k < (ns.length : Int) := by
      have z := of_decide_eq_false hb
      rwa [len_map] at z
    have e0 : cl ns k = 0 := by
      unfold cl
      rw [List.getD_eq_getElem?_getD, List.getElem?_eq_none (by omega)]
      rfl
    rw [e0] at q
    exact s_ret ev_c fun H2 e2 => q H2 (e.trans e2)

/-! ### _law_asked_by -/
def spAskedBy (K : PySem.W.Frag) : Sp := fun vs H Q _ => ∃ (c : Int) (n : Nat), vs = [.int c, .int (n : Int)] ∧ n ≤ 1000 ∧ RetL ((askL c n).map V.int) H Q
theorem l_askedby {H : Hp} {c : Int} {n : Nat} (hn : n ≤ 1000) : SpL (spAskedBy K) [.int c, .int (n : Int)] H ((askL c n).map V.int) := fun H1 e Q q E => ⟨c, n, rfl, hn, q⟩
theorem askL_len (c : Int) (n : Nat) : (askL c n).length ≤ n := by
  unfold askL
  rw [List.length_map]
  have h := List.length_filter_le (fun i => decide (c / 2 ^ i % 2 = 1)) (List.range n)
  rw [List.length_range] at h
  exact h
theorem ok_askedby (T : Txt K mg) : Good P w K mg base CX0 1 "_law_asked_by" ["cell", "things"] (spAskedBy K) := by
  refine Good.of T.f__law_asked_by sc__law_asked_by (fun vs H Q E h => ?_) (fun f cdv A outer s H vs Q E hr h => ?_)
  · obtain ⟨c, n, rfl, _⟩ := h
    rfl
  obtain ⟨c, n, rfl, hn, q⟩ := h
  refine ⟨_, (pss_cons (ps_set (i := 2) sc__law_asked_by.nd rfl (Or.inl rfl) (pe_lst pa_nil))
      (pss_cons (ps_for PassesOwn.never rfl (pi_range1 (by rfl) T.b_range (pa_cons (pv 1) pa_nil)) (pg_name (i := 3) sc__law_asked_by.nd rfl (Or.inl rfl)) (pss_cons (ps_if (pt_cmpR op_eq (pe_op op_mod (pv 0) pe_int) pe_int (nomark _)) (pss_one (ps_expr (kpe_bm (K := K) rfl (pe_bm PySem.F.plainAttrs_list PySem.F.slot_list_append PySem.F.type_list_append mt_append (pv 2) (pa_cons (pv 3) pa_nil))))) pss_nil)
      (pss_one (ps_set (i := 0) sc__law_asked_by.nd rfl (Or.inl rfl) (pe_op op_fdiv (pv 0) pe_int)))))
      (pss_one (ps_ret (pv 2))))), ?_⟩
  refine q_asgL (xs := []) (el_lst ea_nil (Nat.zero_le _)) fun o H1 no e1 h1 => ?_
  refine q_forR1 (n := (n : Int)) (ea_cons (ev_var rfl) ea_nil) (by omega)
    (fun i σ' H' => ∃ x3, σ' = [some (.int (c / 2 ^ i)), some (.int (n : Int)), some (.ref o), x3] ∧ Ex H H' ∧ H' o = some (.lst ((askL c i).map V.int)))
    (fun H2 e2 => ⟨none, by rw [Int.pow_zero, Int.ediv_one]; rfl, e1.trans e2, e2 o _ h1⟩) (fun i σ' H' hi p => ?_) (fun σ' H' p => ?_)
  · obtain ⟨x3, rfl, e, ho⟩ := p
    have nxt : ∀ H2, Ex H H2 → H2 o = some (.lst ((askL c (i + 1)).map V.int)) → tAsg (tOp (rI CDiv fun i j => .int (i / j)) (tVar 0) (tC (.int 2))) (gName 0)
        { nx := fun σ' H' => ∃ x3, σ' = [some (.int (c / 2 ^ (i + 1))), some (.int (n : Int)), some (.ref o), x3] ∧ Ex H H' ∧ H' o = some (.lst ((askL c (i + 1)).map V.int)), rt := Q } [some (.int (c / 2 ^ i)), some (.int (n : Int)), some (.ref o), some (.int (i : Int))] H2 := fun H2 e2 h2 => by
      refine s_asg (v := .int (c / 2 ^ (i + 1))) (ev_is (ev_op (ev_var rfl) ev_c (rv_I ⟨by decide, by decide⟩)) (by rw [ediv_pow])) fun H3 e3 => ⟨_, rfl, e2.trans e3, e3 o _ h2⟩
    refine q_when (b := decide (c / 2 ^ i % 2 = 1)) (et_test (ev_op (ev_op (ev_var rfl) ev_c (rv_I (by show (0 : Int) < 2; decide))) ev_c rv_eqI)) (fun hb H2 e2 => ?_) (fun hb H2 e2 => ?_)
    · refine s_app (e2 o _ ho) (ev_var rfl) (ev_var rfl) (by rw [len_map]; have := askL_len c i; omega) fun H3 e3 => ?_
      refine nxt _ (Ex.mut ((e.trans e2).trans e3) no) ?_
      rw [upd_same, askL_succ, if_pos (of_decide_eq_true hb), List.map_append]
      rfl
    · refine nxt _ (e.trans e2) ?_
      rw [askL_succ, if_neg (of_decide_eq_false hb)]
      exact e2 o _ ho
  · obtain ⟨x3, rfl, e, ho⟩ := p
    rw [Int.toNat_natCast] at ho
    exact s_ret (ev_var rfl) fun H2 e2 => q o H2 no (e.trans e2) (e2 o _ ho)

/-! ### asked_lies, asked_marks, asked_question -/
def spAskedLies (K : PySem.W.Frag) : Sp := fun vs H Q _ => ∃ (L : Nat), vs = [.int (L : Int)] ∧ L ≤ 2 ∧ RetV .non H Q
theorem v_askedlies {H : Hp} {L : Nat} (h : L ≤ 2) : SpV (spAskedLies K) [.int (L : Int)] H .non := fun H1 e Q q E => ⟨L, rfl, h, q⟩
theorem ok_askedlies (T : Txt K mg) : Good P w K mg base CX0 1 "asked_lies" ["lies"] (spAskedLies K) := by
  refine Good.of T.f_asked_lies sc_asked_lies (fun vs H Q E h => ?_) (fun f cdv A outer s H vs Q E hr h => ?_)
  · obtain ⟨i, rfl, _⟩ := h
    rfl
  obtain ⟨L, rfl, h2, q⟩ := h
  refine ⟨_, (pss_one (ps_if (PW.pt (pw_or (pt_cmpR op_lt (pv 0) pe_int (nomark _)) (pw_or1 (pt_cmpR op_gt (pv 0) (pe_glob (v := .int 2) (by rfl) (T.c_MOST_LIES).choose_spec ⟨_, rfl⟩) (nomark _))))) pss_never pss_nil)), ?_⟩
  exact s_when (b := false) (et_or (a := false) (b := false) (et_is (et_test (ev_op (ev_var rfl) ev_c rv_I0)) (decide_eq_false (by omega))) fun _ => et_is (et_test (ev_op (ev_var rfl) ev_c rv_I0)) (decide_eq_false (by omega))) (fun hb => nomatch hb) (fun _ => q)
def spAskedMarks (K : PySem.W.Frag) : Sp := fun vs H Q _ => ∃ (a : Addr) (m : List Int) (L : Nat), vs = [.ref a, .int (L : Int)] ∧ SqL K H a (m.map V.int) ∧ MOk L m ∧ 1 ≤ m.length ∧ RetV .non H Q
theorem v_askedmarks {H : Hp} {a : Addr} {m : List Int} {L : Nat} (ha : SqL K H a (m.map V.int)) (h : MOk L m) (h1 : 1 ≤ m.length) : SpV (spAskedMarks K) [.ref a, .int (L : Int)] H .non := fun H1 e Q q E => ⟨a, m, L, rfl, ex_l e ha, h, h1, q⟩
theorem ok_askedmarks (T : Txt K mg) : Good P w K mg base CX0 2 "asked_marks" ["marks", "lies"] (spAskedMarks K) := by
  have g_asked_lies := ok_askedlies (P := P) (w := w) (base := base) T
  refine Good.of T.f_asked_marks sc_asked_marks (fun vs H Q E h => ?_) (fun f cdv A outer s H vs Q E hr h => ?_)
  · obtain ⟨a, m, L, rfl, _⟩ := h
    rfl
  obtain ⟨a, m, L, rfl, ha, hm, h1, q⟩ := h
  have h8 := hm.len
  refine ⟨_, (pss_cons (ps_expr (cg g_asked_lies (hr.mono (by first | decide | omega)) (pa_cons (pv 1) pa_nil)))
      (pss_cons (ps_if (PW.pt (pw_or (pt_cmpR op_lt (pe_callB (kc_len (K := K) rfl) (by rfl) T.b_len (by decide +kernel) (pa_cons (pv 0) pa_nil)) pe_int (nomark _)) (pw_or1 (pt_cmpR op_gt (pe_callB (kc_len (K := K) rfl) (by rfl) T.b_len (by decide +kernel) (pa_cons (pv 0) pa_nil)) (pe_glob (v := .int 8) (by rfl) (T.c_MOST_THINGS).choose_spec ⟨_, rfl⟩) (nomark _))))) pss_never pss_nil)
      (pss_one (ps_for PassesOwn.never rfl (kpi_list (K := K) rfl (pv 0)) (pg_name (i := 2) sc_asked_marks.nd rfl (Or.inl rfl)) (pss_one (ps_if (PW.pt (pw_or (pt_cmpR op_lt (pv 2) pe_int (nomark _)) (pw_or1 (pt_cmpR op_gt (pv 2) (pe_op op_add (pv 1) pe_int) (nomark _))))) pss_never pss_nil)))))), ?_⟩
  refine q_drop (ev_call (ea_cons (ev_var rfl) ea_nil) (v_askedlies hm.lies)) fun H1 e1 => ?_
  refine q_when (b := false) (et_or (a := false) (b := false) (et_is (et_test (ev_op (ev_len (ev_var rfl) (ex_l e1 ha)) ev_c rv_I0)) (decide_eq_false (by rw [len_map]; omega))) fun _ => et_is (et_test (ev_op (ev_len (ev_var rfl) (ex_l e1 ha)) ev_c rv_I0)) (decide_eq_false (by rw [len_map]; omega))) (fun hb => nomatch hb) (fun _ H2 e2 => ?_)
  have e2 := e1.trans e2
  refine s_forLn (ev_var rfl) (ex_l e2 ha) (fun i σ' H' => ∃ x2, σ' = [some (.ref a), some (.int (L : Int)), x2] ∧ Ex H H') (fun H3 e3 => ⟨_, rfl, e2.trans e3⟩) (fun i σ' H' _ p => by
    obtain ⟨x2, _, e⟩ := p
    exact ex_l e ha) (fun i x σ' H' hx p => ?_) (fun σ' H' p => ?_)
  · obtain ⟨x2, rfl, e⟩ := p
    obtain ⟨y, hy, rfl⟩ := List.mem_map.mp (List.mem_of_getElem? hx)
    have hy2 := hm.mks y hy
    exact s_when (b := false) (et_or (a := false) (b := false) (et_is (et_test (ev_op (ev_var rfl) ev_c rv_I0)) (decide_eq_false (by omega))) fun _ => et_is (et_test (ev_op (ev_var rfl) (ev_op (ev_var rfl) ev_c rv_I0) rv_I0)) (decide_eq_false (by omega))) (fun hb => nomatch hb) (fun _ H4 e4 => ⟨_, rfl, e.trans e4⟩)
  · obtain ⟨x2, rfl, e⟩ := p
    exact q H' e

def spAskedQ (K : PySem.W.Frag) : Sp := fun vs H Q _ => ∃ (b : Addr) (qs : List Int) (n : Int), vs = [.int n, .ref b] ∧ SqL K H b (qs.map V.int) ∧ Rise (-1) qs n ∧ RetV .non H Q
theorem v_askedq {H : Hp} {b : Addr} {qs : List Int} {n : Int} (hb : SqL K H b (qs.map V.int)) (h : Rise (-1) qs n) : SpV (spAskedQ K) [.int n, .ref b] H .non := fun H1 e Q q E => ⟨b, qs, n, rfl, ex_l e hb, h, q⟩
theorem rise_at {n : Int} : ∀ {qs : List Int} {i : Nat} {b x : Int}, Rise b (qs.drop i) n → qs[i]? = some x → b < x ∧ x < n ∧ Rise x (qs.drop (i + 1)) n
  | [], i, b, x, _, h => by simp at h
  | y :: r, 0, b, x, h, e => by
    have e2 : y = x := Option.some.inj e
    subst e2
    exact h
  | y :: r, i + 1, b, x, h, e => rise_at (qs := r) (i := i) h e
theorem ok_askedq (T : Txt K mg) : Good P w K mg base CX0 1 "asked_question" ["things", "question"] (spAskedQ K) := by
  refine Good.of T.f_asked_question sc_asked_question (fun vs H Q E h => ?_) (fun f cdv A outer s H vs Q E hr h => ?_)
  · obtain ⟨b, qs, n, rfl, _⟩ := h
    rfl
  obtain ⟨b, qs, n, rfl, hb, hR, q⟩ := h
  refine ⟨_, (pss_cons (ps_set (i := 2) sc_asked_question.nd rfl (Or.inl rfl) (pe_un un_neg pe_int))
      (pss_one (ps_for PassesOwn.never rfl (kpi_list (K := K) rfl (pv 1)) (pg_name (i := 3) sc_asked_question.nd rfl (Or.inl rfl)) (pss_cons (ps_if (PW.pt (pw_or (pt_cmpR op_le (pv 3) (pv 2) (nomark _)) (pw_or1 (pt_cmpR op_ge (pv 3) (pv 0) (nomark _))))) pss_never pss_nil)
      (pss_one (ps_set (i := 2) sc_asked_question.nd rfl (Or.inl rfl) (pv 3))))))), ?_⟩
  refine q_asg (v := .int (-1)) (ev_un ev_c ru_neg) fun H1 e1 => ?_
  refine s_forLn (ev_var rfl) (ex_l e1 hb) (fun i σ' H' => ∃ bf x3, σ' = [some (.int n), some (.ref b), some (.int bf), x3] ∧ Ex H H' ∧ Rise bf (qs.drop i) n) (fun H3 e3 => ⟨-1, _, rfl, e1.trans e3, hR⟩) (fun i σ' H' _ p => by
    obtain ⟨_, _, _, e, _⟩ := p
    exact ex_l e hb) (fun i x σ' H' hx p => ?_) (fun σ' H' p => ?_)
  · obtain ⟨bf, x3, rfl, e, hr'⟩ := p
    rw [List.getElem?_map] at hx
    cases hq : qs[i]? with
    | none =>
      rw [hq] at hx
      cases hx
    | some y =>
      rw [hq] at hx
      obtain rfl : V.int y = x := Option.some.inj hx
      obtain ⟨r1, r2, r3⟩ := rise_at hr' hq
      refine q_when (b := false) (et_or (a := false) (b := false) (et_is (et_test (ev_op (ev_var rfl) (ev_var rfl) rv_I0)) (decide_eq_false (by omega))) fun _ => et_is (et_test (ev_op (ev_var rfl) (ev_var rfl) rv_I0)) (decide_eq_false (by omega))) (fun hb => nomatch hb) (fun _ H4 e4 => ?_)
      exact s_asg (ev_var rfl) fun H5 e5 => ⟨y, _, rfl, (e.trans e4).trans e5, r3⟩
  · obtain ⟨bf, x3, rfl, e, _⟩ := p
    exact q H' e

/-! ### behind -/
def spBehind (K : PySem.W.Frag) : Sp := fun vs H Q _ => ∃ (a b : Addr) (m q : List Int) (L : Int) (y : Bool), vs = [.ref a, .int L, .ref b, .bl y] ∧ SqL K H a (m.map V.int) ∧ SqL K H b (q.map V.int) ∧ m.length ≤ 1000 ∧ RetL ((beh L m q y).map V.int) H Q
theorem l_behind {H : Hp} {a b : Addr} {m q : List Int} {L : Int} {y : Bool} (ha : SqL K H a (m.map V.int)) (hb : SqL K H b (q.map V.int)) (hl : m.length ≤ 1000) : SpL (spBehind K) [.ref a, .int L, .ref b, .bl y] H ((beh L m q y).map V.int) :=
  fun H1 e Q q' E => ⟨a, b, m, q, L, y, rfl, ex_l e ha, ex_l e hb, hl, q'⟩
theorem ok_behind (T : Txt K mg) : Good P w K mg base CX0 1 "behind" ["marks", "lies", "question", "yes"] (spBehind K) := by
  refine Good.of T.f_behind sc_behind (fun vs H Q E h => ?_) (fun f cdv A outer s H vs Q E hr h => ?_)
  · obtain ⟨a, b, m, q, L, y, rfl, _⟩ := h
    rfl
  obtain ⟨a, b, m, q, L, y, rfl, ha, hb, hl, k⟩ := h
  refine ⟨_, (pss_cons (ps_set (i := 4) sc_behind.nd rfl (Or.inl rfl) (pe_lst pa_nil))
      (pss_cons (ps_for PassesOwn.never rfl (pi_range1 (by rfl) T.b_range (pa_cons (pe_callB (kc_len (K := K) rfl) (by rfl) T.b_len (by decide +kernel) (pa_cons (pv 0) pa_nil)) pa_nil)) (pg_name (i := 5) sc_behind.nd rfl (Or.inl rfl)) (pss_cons (ps_set (i := 6) sc_behind.nd rfl (Or.inl rfl) (pe_callTy c_int (by rfl) T.b_int (by decide +kernel) (pa_cons (pe_cmpR op_ne (pe_cmpR (kop_in (K := K) rfl) (pv 5) (pv 2) (by rfl)) (pv 3) (nomark _)) pa_nil)))
      (pss_one (ps_expr (kpe_bm (K := K) rfl (pe_bm PySem.F.plainAttrs_list PySem.F.slot_list_append PySem.F.type_list_append mt_append (pv 4) (pa_cons (pe_callB (c_min2 (by rfl)) (by rfl) T.b_min (by decide +kernel) (pa_cons (pe_op op_add (pv 1) pe_int) (pa_cons (pe_op op_add (pe_ix (kix_list (K := K) rfl) (pv 0) (pv 5) (fun _ _ => rfl)) (pv 6)) pa_nil))) pa_nil)))))))
      (pss_one (ps_ret (pv 4))))), ?_⟩
  refine q_asgL (xs := []) (el_lst ea_nil (Nat.zero_le _)) fun o H1 no e1 h1 => ?_
  refine q_forR1 (n := ((m.map V.int).length : Int)) (ea_cons (ev_len (ev_var rfl) (ex_l e1 ha)) ea_nil) (by rw [len_map]; omega)
    (fun i σ' H' => ∃ x5 x6, σ' = [some (.ref a), some (.int L), some (.ref b), some (.bl y), some (.ref o), x5, x6] ∧ Ex H H' ∧ H' o = some (.lst (((List.range i).map (bhv L m q y)).map V.int)))
    (fun H2 e2 => ⟨none, none, rfl, e1.trans e2, e2 o _ h1⟩) (fun i σ' H' hi p => ?_) (fun σ' H' p => ?_)
  · obtain ⟨x5, x6, rfl, e, ho⟩ := p
    rw [len_map] at hi
    have hq := rv_isL (ex_l e hb) (x := .int (i : Int)) rfl (flat_int q)
    rw [inV_int] at hq
    refine q_asg (ev_intB (ev_op (ev_op (ev_var rfl) (ev_var rfl) hq) (ev_var rfl) rv_neB)) fun H2 e2 => ?_
    refine s_app (e2 o _ ho) (ev_var rfl) (ev_min2 (by walk_at "ev") (ev_op (ev_op (ev_var rfl) (ev_var rfl) (rv_ixL (ex_l (e.trans e2) ha) (at_int (by omega)))) (ev_var rfl) rv_I0)) (by simp; omega) fun H3 e3 => ?_
    refine ⟨_, _, rfl, Ex.mut ((e.trans e2).trans e3) no, ?_⟩
    rw [upd_same, List.range_succ, List.map_append, List.map_append]
    rfl
  · obtain ⟨x5, x6, rfl, e, ho⟩ := p
    rw [len_map, Int.toNat_natCast] at ho
    exact s_ret (ev_var rfl) fun H2 e2 => k o H2 no (e.trans e2) (e2 o _ ho)

/-! ### begun -/
def spBegun (K : PySem.W.Frag) : Sp := fun vs H Q _ => ∃ (n : Nat), vs = [.int (n : Int)] ∧ 1 ≤ n ∧ n ≤ 8 ∧ RetL ((List.replicate n (0 : Int)).map V.int) H Q
theorem l_begun {H : Hp} {n : Nat} (h1 : 1 ≤ n) (h8 : n ≤ 8) : SpL (spBegun K) [.int (n : Int)] H ((List.replicate n (0 : Int)).map V.int) := fun H1 e Q q E => ⟨n, rfl, h1, h8, q⟩
theorem map_const0 (n : Nat) : ((List.range n).map fun _ => (0 : Int)) = List.replicate n 0 := by
  rw [List.map_const', List.length_range]
theorem ok_begun (T : Txt K mg) : Good P w K mg base CX0 1 "begun" ["things"] (spBegun K) := by
  refine Good.of T.f_begun sc_begun (fun vs H Q E h => ?_) (fun f cdv A outer s H vs Q E hr h => ?_)
  · obtain ⟨i, rfl, _⟩ := h
    rfl
  obtain ⟨n, rfl, h1, h8, q⟩ := h
  refine ⟨_, (pss_cons (ps_if (PW.pt (pw_or (pt_cmpR op_lt (pv 0) pe_int (nomark _)) (pw_or1 (pt_cmpR op_gt (pv 0) (pe_glob (v := .int 8) (by rfl) (T.c_MOST_THINGS).choose_spec ⟨_, rfl⟩) (nomark _))))) pss_never pss_nil)
      (pss_one (ps_ret (pe_lc (own := [("thing", 1)]) (by rfl) sc_begun.nd (pi_range1 (by rfl) T.b_range (pa_cons (pv 0) pa_nil)) (blkOk_by (own := [("thing", 1)]) (N := n_begun) (sc := defScope s_begun) (by decide +kernel)) (fun _ _ _ _ _ => (pg_name (i := 1) sc_begun.nd rfl (Or.inl rfl))) (fun _ _ _ _ _ => pts_nil) (fun _ _ _ _ _ => pe_int))))), ?_⟩
  refine q_when (b := false) (et_or (a := false) (b := false) (et_is (et_test (ev_op (ev_var rfl) ev_c rv_I0)) (decide_eq_false (by omega))) fun _ => et_is (et_test (ev_op (ev_var rfl) ev_c rv_I0)) (decide_eq_false (by omega))) (fun hb => nomatch hb) (fun _ H2 e2 => ?_)
  have e := el_cI (σ := [some (.int (n : Int)), none]) (H := H2) (te := tC (.int 0)) (j := 1) (vs := [1]) (fun _ => 0) (ea_cons (ev_var (i := 0) rfl) ea_nil) (by omega) (fun _ => rfl) (fun i H1 e1 hi => ev_c)
  rw [Int.toNat_natCast, map_const0] at e
  exact s_retL e fun p H3 np e3 h3 => q p H3 (fresh_back e2 np) (e2.trans e3) h3

/-! ### after, standing -/
def spAfter (K : PySem.W.Frag) : Sp := fun vs H Q _ => ∃ (a b : Addr) (m q : List Int) (L : Nat) (y : Bool), vs = [.ref a, .int (L : Int), .ref b, .bl y] ∧ SqL K H a (m.map V.int) ∧ SqL K H b (q.map V.int) ∧ MOk L m ∧ 1 ≤ m.length ∧ Rise (-1) q (m.length : Int) ∧ RetL ((afq L m q y).map V.int) H Q
theorem l_after {H : Hp} {a b : Addr} {m q : List Int} {L : Nat} {y : Bool} (ha : SqL K H a (m.map V.int)) (hb : SqL K H b (q.map V.int)) (hm : MOk L m) (h1 : 1 ≤ m.length) (hq : Rise (-1) q (m.length : Int)) : SpL (spAfter K) [.ref a, .int (L : Int), .ref b, .bl y] H ((afq L m q y).map V.int) :=
  fun H1 e Q q' E => ⟨a, b, m, q, L, y, rfl, ex_l e ha, ex_l e hb, hm, h1, hq, q'⟩
theorem ok_after (T : Txt K mg) : Good P w K mg base CX0 3 "after" ["marks", "lies", "asked", "yes"] (spAfter K) := by
  have g_asked_marks := ok_askedmarks (P := P) (w := w) (base := base) T
  have g_asked_question := ok_askedq (P := P) (w := w) (base := base) T
  have g_behind := ok_behind (P := P) (w := w) (base := base) T
  refine Good.of T.f_after sc_after (fun vs H Q E h => ?_) (fun f cdv A outer s H vs Q E hr h => ?_)
  · obtain ⟨a, b, m, q, L, y, rfl, _⟩ := h
    rfl
  obtain ⟨a, b, m, q, L, y, rfl, ha, hb, hm, h1, hq, k⟩ := h
  have h8 := hm.len
  refine ⟨_, (pss_cons (ps_expr (cg g_asked_marks (hr.mono (by first | decide | omega)) (pa_cons (pv 0) (pa_cons (pv 1) pa_nil))))
      (pss_cons (ps_expr (cg g_asked_question (hr.mono (by first | decide | omega)) (pa_cons (pe_callB (kc_len (K := K) rfl) (by rfl) T.b_len (by decide +kernel) (pa_cons (pv 0) pa_nil)) (pa_cons (pv 2) pa_nil))))
      (pss_one (ps_ret (cg g_behind (hr.mono (by first | decide | omega)) (pa_cons (pv 0) (pa_cons (pv 1) (pa_cons (pv 2) (pa_cons (pv 3) pa_nil))))))))), ?_⟩
  refine q_drop (ev_call (ea_cons (ev_var rfl) (ea_cons (ev_var rfl) ea_nil)) (v_askedmarks ha hm h1)) fun H1 e1 => ?_
  refine q_drop (ev_call (ea_cons (ev_len (ev_var rfl) (ex_l e1 ha)) (ea_cons (ev_var rfl) ea_nil)) (v_askedq (ex_l e1 hb) (by rw [len_map]; exact hq))) fun H2 e2 => ?_
  have e2 := e1.trans e2
  refine s_retL (el_call (ea_cons (ev_var rfl) (ea_cons (ev_var rfl) (ea_cons (ev_var rfl) (ea_cons (ev_var rfl) ea_nil)))) (l_behind (ex_l e2 ha) (ex_l e2 hb) (by omega))) fun p H3 np e3 h3 => ?_
  rw [beh_afq hm.mks] at h3
  exact k p H3 (fresh_back e2 np) (e2.trans e3) h3

def spStanding (K : PySem.W.Frag) : Sp := fun vs H Q _ => ∃ (a : Addr) (m : List Int) (L : Nat), vs = [.ref a, .int (L : Int)] ∧ SqL K H a (m.map V.int) ∧ MOk L m ∧ 1 ≤ m.length ∧ RetL ((stl L m).map V.int) H Q
theorem l_standing {H : Hp} {a : Addr} {m : List Int} {L : Nat} (ha : SqL K H a (m.map V.int)) (hm : MOk L m) (h1 : 1 ≤ m.length) : SpL (spStanding K) [.ref a, .int (L : Int)] H ((stl L m).map V.int) :=
  fun H1 e Q q E => ⟨a, m, L, rfl, ex_l e ha, hm, h1, q⟩
theorem ok_standing (T : Txt K mg) : Good P w K mg base CX0 3 "standing" ["marks", "lies"] (spStanding K) := by
  have g_asked_marks := ok_askedmarks (P := P) (w := w) (base := base) T
  refine Good.of T.f_standing sc_standing (fun vs H Q E h => ?_) (fun f cdv A outer s H vs Q E hr h => ?_)
  · obtain ⟨a, m, L, rfl, _⟩ := h
    rfl
  obtain ⟨a, m, L, rfl, ha, hm, h1, q⟩ := h
  have h8 := hm.len
  refine ⟨_, (pss_cons (ps_expr (cg g_asked_marks (hr.mono (by first | decide | omega)) (pa_cons (pv 0) (pa_cons (pv 1) pa_nil))))
      (pss_one (ps_ret (pe_lc (own := [("thing", 2)]) (by rfl) sc_standing.nd (pi_range1 (by rfl) T.b_range (pa_cons (pe_callB (kc_len (K := K) rfl) (by rfl) T.b_len (by decide +kernel) (pa_cons (pv 0) pa_nil)) pa_nil)) (blkOk_by (own := [("thing", 2)]) (N := n_standing) (sc := defScope s_standing) (by decide +kernel)) (fun _ _ _ _ _ => (pg_name (i := 2) sc_standing.nd rfl (Or.inl rfl))) (fun _ _ _ _ _ => pts_one (pt_cmpR op_le (pe_ix (kix_list (K := K) rfl) (pv 0) (pv 2) (fun _ _ => rfl)) (pv 1) (nomark _))) (fun _ _ _ _ _ => (pv 2)))))), ?_⟩
  refine q_drop (ev_call (ea_cons (ev_var rfl) (ea_cons (ev_var rfl) ea_nil)) (v_askedmarks ha hm h1)) fun H1 e1 => ?_
  have e := el_cF (σ := [some (.ref a), some (.int (L : Int)), none]) (H := H1) (t := tTest (tOp (rI0 fun i j => .bl (decide (i ≤ j))) (tOp (rIxL K) (tVar 0) (tVar 2)) (tVar 1))) (te := tVar 2) (j := 2) (vs := [2]) (fun i => decide (m.getD i 0 ≤ (L : Int))) (ea_cons (ev_len (ev_var (i := 0) rfl) (ex_l e1 ha)) ea_nil) (by rw [len_map]; omega) (fun _ => rfl)
    (fun i H2 e2 hi => et_test (ev_op (ev_op (ev_var rfl) (ev_var rfl) (rv_ixL (ex_l (e1.trans e2) ha) (at_int (by rw [len_map] at hi; omega)))) (ev_var rfl) rv_I0)) (fun i H1 e1 hi => ev_var rfl)
  rw [len_map, Int.toNat_natCast] at e
  exact s_retL e fun p H3 np e3 h3 => q p H3 (fresh_back e1 np) (e1.trans e3) h3

/-! ### marked -/
def spMarked (K : PySem.W.Frag) : Sp := fun vs H Q _ => ∃ (n L : Nat) (tk : Addr) (ts : List Addr) (l : List (List Int × Bool)), vs = [.int (n : Int), .int (L : Int), .ref tk] ∧ SqL K H tk (ts.map V.ref) ∧ TalkAt K H ts l ∧ (∀ p ∈ l, Rise (-1) p.1 (n : Int)) ∧ L ≤ 2 ∧ 1 ≤ n ∧ n ≤ 8 ∧ RetL ((res (L : Int) n l).map V.int) H Q
theorem l_marked {H : Hp} {n L : Nat} {tk : Addr} {ts : List Addr} {l : List (List Int × Bool)} (h1 : SqL K H tk (ts.map V.ref)) (h2 : TalkAt K H ts l) (h3 : ∀ p ∈ l, Rise (-1) p.1 (n : Int)) (h4 : L ≤ 2) (h5 : 1 ≤ n) (h6 : n ≤ 8) : SpL (spMarked K) [.int (n : Int), .int (L : Int), .ref tk] H ((res (L : Int) n l).map V.int) :=
  fun H1 e Q q E => ⟨n, L, tk, ts, l, rfl, ex_l e h1, h2.ex e, h3, h4, h5, h6, q⟩
theorem ok_marked (T : Txt K mg) : Good P w K mg base CX0 2 "marked" ["things", "lies", "talk"] (spMarked K) := by
  have g_asked_lies := ok_askedlies (P := P) (w := w) (base := base) T
  have g_asked_question := ok_askedq (P := P) (w := w) (base := base) T
  have g_behind := ok_behind (P := P) (w := w) (base := base) T
  have g_begun := ok_begun (P := P) (w := w) (base := base) T
  refine Good.of T.f_marked sc_marked (fun vs H Q E h => ?_) (fun f cdv A outer s H vs Q E hr h => ?_)
  · obtain ⟨n, L, tk, ts, l, rfl, _⟩ := h
    rfl
  obtain ⟨n, L, tk, ts, l, rfl, hT, hl, hR, h2, h1, h8, k⟩ := h
  refine ⟨_, (pss_cons (ps_expr (cg g_asked_lies (hr.mono (by first | decide | omega)) (pa_cons (pv 1) pa_nil)))
      (pss_cons (ps_set (i := 3) sc_marked.nd rfl (Or.inl rfl) (cg g_begun (hr.mono (by first | decide | omega)) (pa_cons (pv 0) pa_nil)))
      (pss_cons (ps_for PassesOwn.never rfl (kpi_list (K := K) rfl (pv 2)) (kpg_tup (K := K) (n := 2) rfl (by rfl) (pgs_cons (pg_name (i := 4) sc_marked.nd rfl (Or.inl rfl)) (pgs_cons (pg_name (i := 5) sc_marked.nd rfl (Or.inl rfl)) pgs_nil))) (pss_cons (ps_expr (cg g_asked_question (hr.mono (by first | decide | omega)) (pa_cons (pv 0) (pa_cons (pv 4) pa_nil))))
      (pss_one (ps_set (i := 3) sc_marked.nd rfl (Or.inl rfl) (cg g_behind (hr.mono (by first | decide | omega)) (pa_cons (pv 3) (pa_cons (pv 1) (pa_cons (pv 4) (pa_cons (pv 5) pa_nil)))))))))
      (pss_one (ps_ret (pv 3)))))), ?_⟩
  refine q_drop (ev_call (ea_cons (ev_var rfl) ea_nil) (v_askedlies h2)) fun H1 e1 => ?_
  refine q_asgL (el_call (ea_cons (ev_var rfl) ea_nil) (l_begun h1 h8)) fun o H2 no e2 ho => ?_
  have no := fresh_back e1 no
  have e2 := e1.trans e2
  rw [← res_nil (L : Int) (by omega) n] at ho
  refine q_forL (ev_var rfl) (ex_l e2 hT) (fun i σ' H' => ∃ o x4 x5, σ' = [some (.int (n : Int)), some (.int (L : Int)), some (.ref tk), some (.ref o), x4, x5] ∧ Ex H H' ∧ H o = none ∧ H' o = some (.lst ((res (L : Int) n (l.take i)).map V.int))) (fun H3 e3 => ⟨o, _, _, rfl, e2.trans e3, no, e3 _ _ ho⟩) (fun i σ' H' _ p => by
    obtain ⟨_, _, _, _, e, _⟩ := p
    exact ex_l e hT) (fun i x σ' H' hx p => ?_) (fun σ' H' p => ?_)
  · obtain ⟨o, x4, x5, rfl, e, no, ho⟩ := p
    rw [List.getElem?_map] at hx
    cases ht : ts[i]? with
    | none =>
      rw [ht] at hx
      cases hx
    | some t =>
      rw [ht] at hx
      obtain rfl : V.ref t = x := Option.some.inj hx
      obtain ⟨q, y, b, hg, hb1, hb2⟩ := (hl.ex e).get ht
      have hRq : Rise (-1) q (n : Int) := hR _ (List.mem_of_getElem? hg)
      refine ⟨t, _, rfl, hb1, rfl, _, _, rfl, _, [], rfl, rfl, ?_⟩
      refine q_drop (ev_call (ea_cons (ev_var rfl) (ea_cons (ev_var rfl) ea_nil)) (v_askedq hb2 hRq)) fun H3 e3 => ?_
      refine s_asgL (el_call (ea_cons (ev_var rfl) (ea_cons (ev_var rfl) (ea_cons (ev_var rfl) (ea_cons (ev_var rfl) ea_nil)))) (l_behind (sq_of (e3 _ _ ho)) (ex_l e3 hb2) (by rw [res_len]; omega))) fun p H4 np e4 hp => ?_
      have e4 := e3.trans e4
      rw [res_snoc] at hp
      refine ⟨p, _, _, rfl, e.trans e4, fresh_back (e.trans e3) np, ?_⟩
      rw [List.take_add_one, hg]
      exact hp
  · obtain ⟨o, x4, x5, rfl, e, no, ho⟩ := p
    rw [List.take_of_length_le (by rw [len_map, hl.len]; exact Nat.le_refl _)] at ho
    exact s_ret (ev_var rfl) fun H2 e2 => k o H2 no (e.trans e2) (e2 o _ ho)

/-! ### picks, ways_left, weight -/
def spPicks (K : PySem.W.Frag) : Sp := fun vs H Q _ => ∃ (n k : Nat), vs = [.int (n : Int), .int (k : Int)] ∧ n ≤ 1000 ∧ k ≤ 10 ∧ RetV (.int (ch n k : Int)) H Q
theorem v_picks {H : Hp} {n k : Nat} (hn : n ≤ 1000) (hk : k ≤ 10) : SpV (spPicks K) [.int (n : Int), .int (k : Int)] H (.int (ch n k : Int)) := fun H1 e Q q E => ⟨n, k, rfl, hn, hk, q⟩
theorem ok_picks (T : Txt K mg) : Good P w K mg base CX0 1 "picks" ["total", "some"] (spPicks K) := by
  refine Good.of T.f_picks sc_picks (fun vs H Q E h => ?_) (fun f cdv A outer s H vs Q E hr h => ?_)
  · obtain ⟨n, k, rfl, _⟩ := h
    rfl
  obtain ⟨n, k, rfl, hn, hk, q⟩ := h
  refine ⟨_, (pss_cons (ps_set (i := 2) sc_picks.nd rfl (Or.inl rfl) pe_int)
      (pss_cons (ps_for PassesOwn.never rfl (pi_range1 (by rfl) T.b_range (pa_cons (pv 1) pa_nil)) (pg_name (i := 3) sc_picks.nd rfl (Or.inl rfl)) (pss_one (ps_set (i := 2) sc_picks.nd rfl (Or.inl rfl) (pe_op op_fdiv (pe_op op_mul (pv 2) (pe_op op_sub (pv 0) (pv 3))) (pe_op op_add (pv 3) pe_int)))))
      (pss_one (ps_ret (pv 2))))), ?_⟩
  refine q_asg ev_c fun H1 e1 => ?_
  refine q_forR1 (n := (k : Int)) (ea_cons (ev_var rfl) ea_nil) (by omega) (fun i σ' H' => ∃ x3, σ' = [some (.int (n : Int)), some (.int (k : Int)), some (.int (pk (n : Int) i)), x3] ∧ Ex H H') (fun H2 e2 => ⟨_, rfl, e1.trans e2⟩) (fun i σ' H' hi p => ?_) (fun σ' H' p => ?_)
  · obtain ⟨x3, rfl, e⟩ := p
    exact s_asg (ev_op (ev_op (ev_var rfl) (ev_op (ev_var rfl) (ev_var rfl) rv_I0) (rv_I (.inr ⟨by omega, by omega⟩))) (ev_op (ev_var rfl) ev_c rv_I0) (rv_I ⟨by omega, by omega⟩)) fun H2 e2 => ⟨_, rfl, e.trans e2⟩
  · obtain ⟨x3, rfl, e⟩ := p
    rw [Int.toNat_natCast, pk_ch]
    exact s_ret (ev_var rfl) fun H2 e2 => q H2 (e.trans e2)
def spWaysLeft (K : PySem.W.Frag) : Sp := fun vs H Q _ => ∃ (l : Int) (n : Nat), vs = [.int l, .int (n : Int)] ∧ n ≤ 1000 ∧ -1 ≤ l ∧ l ≤ 5 ∧ RetV (.int (wy (l + 1).toNat n : Int)) H Q
theorem v_waysleft {H : Hp} {l : Int} {n : Nat} (hn : n ≤ 1000) (h1 : -1 ≤ l) (h5 : l ≤ 5) : SpV (spWaysLeft K) [.int l, .int (n : Int)] H (.int (wy (l + 1).toNat n : Int)) := fun H1 e Q q E => ⟨l, n, rfl, hn, h1, h5, q⟩
theorem ok_waysleft (T : Txt K mg) : Good P w K mg base CX0 2 "ways_left" ["lies", "many"] (spWaysLeft K) := by
  have g_picks := ok_picks (P := P) (w := w) (base := base) T
  refine Good.of T.f_ways_left sc_ways_left (fun vs H Q E h => ?_) (fun f cdv A outer s H vs Q E hr h => ?_)
  · obtain ⟨l, n, rfl, _⟩ := h
    rfl
  obtain ⟨l, n, rfl, hn, h1, h5, q⟩ := h
  refine ⟨_, (pss_one (ps_ret (pe_callB (kc_sum (K := K) rfl (by rfl)) (by rfl) T.b_sum (by decide +kernel) (pa_cons (pe_lc (own := [("some", 2)]) (by rfl) sc_ways_left.nd (pi_range1 (by rfl) T.b_range (pa_cons (pe_op op_add (pv 0) pe_int) pa_nil)) (blkOk_by (own := [("some", 2)]) (N := n_ways_left) (sc := defScope s_ways_left) (by decide +kernel)) (fun _ _ _ _ _ => (pg_name (i := 2) sc_ways_left.nd rfl (Or.inl rfl))) (fun _ _ _ _ _ => pts_nil) (fun _ _ _ _ _ => (cg g_picks (hr.mono (by first | decide | omega)) (pa_cons (pv 1) (pa_cons (pv 2) pa_nil))))) pa_nil)))), ?_⟩
  refine s_ret (v := .int (wy (l + 1).toNat n : Int)) (ev_is (ev_sumL (el_cI (fun i => (ch n i : Int)) (ea_cons (ev_op (ev_var rfl) ev_c rv_I0) ea_nil) (by omega) (fun _ => rfl) fun i H1 e1 hi => ev_call (ea_cons (ev_var rfl) (ea_cons (ev_var rfl) ea_nil)) (v_picks hn (by omega)))) (by rw [wy_int])) q

def spWeight (K : PySem.W.Frag) : Sp := fun vs H Q _ => ∃ (a : Addr) (m : List Int) (L n : Nat), vs = [.ref a, .int (L : Int), .int (n : Int)] ∧ SqL K H a (m.map V.int) ∧ MOk L m ∧ 1 ≤ m.length ∧ n ≤ 100 ∧ RetV (.int (Wt (L : Int) m n : Int)) H Q
theorem v_weight {H : Hp} {a : Addr} {m : List Int} {L n : Nat} (ha : SqL K H a (m.map V.int)) (hm : MOk L m) (h1 : 1 ≤ m.length) (hn : n ≤ 100) : SpV (spWeight K) [.ref a, .int (L : Int), .int (n : Int)] H (.int (Wt (L : Int) m n : Int)) := fun H1 e Q q E => ⟨a, m, L, n, rfl, ex_l e ha, hm, h1, hn, q⟩
theorem ok_weight (T : Txt K mg) : Good P w K mg base CX0 3 "weight" ["marks", "lies", "many"] (spWeight K) := by
  have g_asked_marks := ok_askedmarks (P := P) (w := w) (base := base) T
  have g_ways_left := ok_waysleft (P := P) (w := w) (base := base) T
  refine Good.of T.f_weight sc_weight (fun vs H Q E h => ?_) (fun f cdv A outer s H vs Q E hr h => ?_)
  · obtain ⟨a, m, L, n, rfl, _⟩ := h
    rfl
  obtain ⟨a, m, L, n, rfl, ha, hm, h1, hn, q⟩ := h
  have h8 := hm.len
  have h2 := hm.lies
  refine ⟨_, (pss_cons (ps_expr (cg g_asked_marks (hr.mono (by first | decide | omega)) (pa_cons (pv 0) (pa_cons (pv 1) pa_nil))))
      (pss_cons (ps_if (PW.pt (pw_or (pt_cmpR op_lt (pv 2) pe_int (nomark _)) (pw_or1 (pt_cmpR op_gt (pv 2) (pe_glob (v := .int 100) (by rfl) (T.c_MOST).choose_spec ⟨_, rfl⟩) (nomark _))))) pss_never pss_nil)
      (pss_one (ps_ret (pe_callB (kc_sum (K := K) rfl (by rfl)) (by rfl) T.b_sum (by decide +kernel) (pa_cons (pe_lc (own := [("mark", 3)]) (by rfl) sc_weight.nd (kpi_list (K := K) rfl (pv 0)) (blkOk_by (own := [("mark", 3)]) (N := n_weight) (sc := defScope s_weight) (by decide +kernel)) (fun _ _ _ _ _ => (pg_name (i := 3) sc_weight.nd rfl (Or.inl rfl))) (fun _ _ _ _ _ => pts_nil) (fun _ _ _ _ _ => (cg g_ways_left (hr.mono (by first | decide | omega)) (pa_cons (pe_op op_sub (pv 1) (pv 3)) (pa_cons (pv 2) pa_nil))))) pa_nil)))))), ?_⟩
  refine q_drop (ev_call (ea_cons (ev_var rfl) (ea_cons (ev_var rfl) ea_nil)) (v_askedmarks ha hm h1)) fun H1 e1 => ?_
  refine q_when (b := false) (et_or (a := false) (b := false) (et_is (et_test (ev_op (ev_var rfl) ev_c rv_I0)) (decide_eq_false (by omega))) fun _ => et_is (et_test (ev_op (ev_var rfl) ev_c rv_I0)) (decide_eq_false (by omega))) (fun hb => nomatch hb) (fun _ H2 e2 => ?_)
  have e2 := e1.trans e2
  refine s_ret (v := .int (Wt (L : Int) m n : Int)) (ev_is (ev_sumL (el_cL (fun x => (wy ((L : Int) + 1 - x).toNat n : Int)) (ev_var rfl) (ex_l e2 ha) (by omega) (fun _ => rfl) fun x H3 e3 hx => ?_)) (by rw [Wt_int])) fun H3 e3 => q H3 (e2.trans e3)
  have hx2 := hm.mks x hx
  have e : (L : Int) - x + 1 = (L : Int) + 1 - x := by omega
  rw [← e]
  exact ev_call (ea_cons (ev_op (ev_var rfl) (ev_var rfl) rv_I0) (ea_cons (ev_var rfl) ea_nil)) (v_waysleft (by omega) (by omega) (by omega))

/-! ### counted, parts, moved, heavy -/
def spCounted (K : PySem.W.Frag) : Sp := fun vs H Q _ => ∃ (a : Addr) (m : List Int) (L : Nat), vs = [.ref a, .int (L : Int)] ∧ SqL K H a (m.map V.int) ∧ L ≤ 10 ∧ RetU ((ic (cnt L m)).map V.int) H Q
theorem u_counted {H : Hp} {a : Addr} {m : List Int} {L : Nat} (ha : SqL K H a (m.map V.int)) (hL : L ≤ 10) : SpU (spCounted K) [.ref a, .int (L : Int)] H ((ic (cnt L m)).map V.int) := fun H1 e Q q E => ⟨a, m, L, rfl, ex_l e ha, hL, q⟩
theorem ok_counted (T : Txt K mg) : Good P w K mg base CX0 1 "counted" ["marks", "lies"] (spCounted K) := by
  refine Good.of T.f_counted sc_counted (fun vs H Q E h => ?_) (fun f cdv A outer s H vs Q E hr h => ?_)
  · obtain ⟨a, m, L, rfl, _⟩ := h
    rfl
  obtain ⟨a, m, L, rfl, ha, hL, q⟩ := h
  refine ⟨_, (pss_one (ps_ret (pe_callTy (kc_tuple (K := K) rfl) (by rfl) T.b_tuple (by decide +kernel) (pa_cons (pe_lc (own := [("mark", 2)]) (by rfl) sc_counted.nd (pi_range1 (by rfl) T.b_range (pa_cons (pe_op op_add (pv 1) pe_int) pa_nil)) (blkOk_by (own := [("mark", 2)]) (N := n_counted) (sc := defScope s_counted) (by decide +kernel)) (fun _ _ _ _ _ => (pg_name (i := 2) sc_counted.nd rfl (Or.inl rfl))) (fun _ _ _ _ _ => pts_nil) (fun _ _ _ _ _ => (kpe_bm (K := K) rfl (pe_bm PySem.F.plainAttrs_list PySem.F.slot_list_count PySem.F.type_list_count (kmt_count (K := K) rfl) (pv 0) (pa_cons (pv 2) pa_nil))))) pa_nil)))), ?_⟩
  have e := el_cI (σ := [some (.ref a), some (.int (L : Int)), none]) (H := H) (ta := tCons (tOp (rI0 fun i j => .int (i + j)) (tVar 1) (tC (.int 1))) tNil) (te := tBM K "list" (rCntI K) (tVar 0) (tCons (tVar 2) tNil)) (j := 2) (vs := [2]) (fun i => (m.count (i : Int) : Int)) (ea_cons (ev_op (ev_var rfl) ev_c rv_I0) ea_nil) (by omega) (fun _ => rfl) (fun i H1 e1 hi => ev_cnt (ev_var rfl) (ev_var rfl) (ex_l e1 ha))
  have e2 : ((List.range ((L : Int) + 1).toNat).map fun (i : Nat) => (m.count (i : Int) : Int)) = ic (cnt L m) := by
    have e3 : ((L : Int) + 1).toNat = L + 1 := by omega
    rw [e3]
    unfold ic LA.cnt
    rw [List.map_map]
    rfl
  rw [e2] at e
  exact s_retU (eu_tup e) q
def spParts : Sp := fun vs H Q _ => ∃ (c : Addr) (cs : List Nat), vs = [.ref c] ∧ H c = some (.tup ((ic cs).map V.int)) ∧ cs.length ≤ 3 ∧ (∀ x ∈ cs, x ≤ 8) ∧ ∀ D H1 rs, H D = none → Ex H H1 → H1 D = some (.lst (rs.map V.ref)) → TupsAt H1 rs (prt cs) → Q (.ref D) H1
theorem ok_parts (T : Txt K mg) : Good P w K mg base CX0 1 "parts" ["counts"] spParts := by
  refine Good.of T.f_parts sc_parts (fun vs H Q E h => ?_) (fun f cdv A outer s H vs Q E hr h => ?_)
  · obtain ⟨c, cs, rfl, _⟩ := h
    rfl
  obtain ⟨c, cs, rfl, hc, h3, h8, k⟩ := h
  have big : ∀ i, i ≤ cs.length → (prtT cs i).length ≤ 729 := fun i hi => by
    have z := prtT_len h8 i hi
    have : 9 ^ i ≤ 9 ^ 3 := Nat.pow_le_pow_right (by omega) (by omega)
    omega
  refine ⟨_, (pss_cons (ps_set (i := 1) sc_parts.nd rfl (Or.inl rfl) (pe_lst (pa_cons (pe_tup pa_nil) pa_nil)))
      (pss_cons (ps_for PassesOwn.never rfl (kpi_tup (K := K) rfl (pv 0)) (pg_name (i := 2) sc_parts.nd rfl (Or.inl rfl)) (pss_cons (ps_set (i := 3) sc_parts.nd rfl (Or.inl rfl) (pe_lst pa_nil))
      (pss_cons (ps_for PassesOwn.never rfl (kpi_list (K := K) rfl (pv 1)) (pg_name (i := 4) sc_parts.nd rfl (Or.inr rfl)) (pss_one (ps_expr (kpe_bm (K := K) rfl (pe_bm PySem.F.plainAttrs_list PySem.F.slot_list_extend PySem.F.type_list_extend mt_extend (pv 3) (pa_cons (pe_lc (own := [("some", 5)]) (by rfl) sc_parts.nd (pi_range1 (by rfl) T.b_range (pa_cons (pe_op op_add (pv 2) pe_int) pa_nil)) (blkOk_by (own := [("some", 5)]) (N := n_parts) (sc := defScope s_parts) (by decide +kernel)) (fun _ _ _ _ _ => (pg_name (i := 5) sc_parts.nd rfl (Or.inl rfl))) (fun _ _ _ _ _ => pts_nil) (fun _ _ _ _ _ => (pe_op (kop_catA (K := K) rfl) (pv 4) (pe_tup (pa_cons (pv 5) pa_nil))))) pa_nil))))))
      (pss_one (ps_set (i := 1) sc_parts.nd rfl (Or.inl rfl) (pv 3))))))
      (pss_one (ps_ret (pv 1))))), ?_⟩
  -- found = [()]
  refine ⟨Nat.zero_le _, fun t nt => ⟨by show 1 ≤ sizeLine; decide, fun D nD => ?_⟩⟩
  have eD : Ex H (upd (upd H t (.tup [])) D (.lst [.ref t])) := (Ex.new nt).trans (Ex.new nD)
  refine q_forT (ev_var rfl) (st_of (eD _ _ hc)) (fun i σ' H' => ∃ D rs x2 x3 x4 x5, σ' = [some (.ref c), some (.ref D), x2, x3, x4, x5] ∧ Ex H H' ∧ H D = none ∧ H' D = some (.lst (rs.map V.ref)) ∧ TupsAt H' rs (prtT cs i))
    (fun H1 e1 => ⟨D, [t], none, none, none, none, rfl, eD.trans e1, fresh_back (Ex.new nt) nD, e1 _ _ upd_same, .cons (e1 _ _ (Ex.new nD _ _ upd_same)) .nil⟩)
    (fun i σ' H' _ p => by
      obtain ⟨_, _, _, _, _, _, _, e, _⟩ := p
      exact st_of (e _ _ hc)) (fun i x σ' H' hx p => ?_) (fun σ' H' p => ?_)
  · obtain ⟨D, rs, x2, x3, x4, x5, rfl, e, nD, hD, hT⟩ := p
    have hi : i < cs.length := by
      have z := (List.getElem?_eq_some_iff.mp hx).1
      rwa [len_map, ic_len] at z
    obtain ⟨y, hy⟩ : ∃ y, cs[i]? = some y := ⟨_, List.getElem?_eq_getElem hi⟩
    have hx2 : x = V.int (y : Int) := by
      unfold ic at hx
      rw [List.getElem?_map, List.getElem?_map, hy] at hx
      exact (Option.some.inj hx).symm
    subst hx2
    have hy8 := h8 y (List.mem_of_getElem? hy)
    -- longer = []
    refine q_asgL (xs := []) (el_lst ea_nil (Nat.zero_le _)) fun G H1 nG e1 hG => ?_
    have nG0 := fresh_back e nG
    have hD1 := e1 _ _ hD
    have hT1 := hT.ex e1
    refine q_forLn (ev_var rfl) (sq_of hD1) (fun j σ' H2 => ∃ ss x4 x5, σ' = [some (.ref c), some (.ref D), some (.int (y : Int)), some (.ref G), x4, x5] ∧ H2 D = some (.lst (rs.map V.ref)) ∧ TupsAt H2 rs (prtT cs i) ∧ H2 G = some (.lst (ss.map V.ref)) ∧ TupsAt H2 ss (prt1 ((prtT cs i).take j) y) ∧ Ex H H2)
      (fun H2 e2 => ⟨[], _, _, rfl, e2 _ _ hD1, hT1.ex e2, e2 _ _ hG, .nil, (e.trans e1).trans e2⟩) (fun j σ' H2 _ p => by
        obtain ⟨_, _, _, _, h, _⟩ := p
        exact sq_of h) (fun j x σ' H2 hx p => ?_) (fun σ' H2 p => ?_)
    · obtain ⟨ss, x4, x5, rfl, hD2, hT2, hG2, hS2, e2⟩ := p
      rw [List.getElem?_map] at hx
      cases hr' : rs[j]? with
      | none =>
        rw [hr'] at hx
        cases hx
      | some r =>
        rw [hr'] at hx
        obtain rfl : V.ref r = x := Option.some.inj hx
        obtain ⟨u, hu, hru⟩ := hT2.get hr'
        have ul : u.length = i := prtT_mem i (by omega) u (List.mem_of_getElem? hu)
        have hj : j < (prtT cs i).length := (List.getElem?_eq_some_iff.mp hu).1
        have b1 := big i (by omega)
        have b2 := big (i + 1) (by omega)
        have ssl : ss.length = j * (y + 1) := by rw [hS2.len, prt1_len, List.length_take, Nat.min_eq_left (by omega)]
        have ssl2 : j * (y + 1) ≤ 729 * 9 := Nat.mul_le_mul (by omega) (by omega)
        have nGr : ∀ (b : Addr) (w' : List Nat), H2 b = some (.tup ((ic w').map V.int)) → b ≠ G := fun b w' hb z => by
          rw [z, hG2] at hb
          cases hb
        refine ⟨.ref G, rfl, .inl ⟨rfl, _, sq_of hG2⟩, ?_⟩
        refine part_lc (c := y) (i := 4) (r := r) (u := u) (ea_cons (ev_op (ev_var rfl) ev_c rv_I0) ea_nil) (by omega) (by omega) hru (fun _ => rfl) (fun _ => rfl) (fun _ => rfl) fun D2 H3 ts nD2 e3 hD3 hT3 => ?_
        have tsl : ts.length = y + 1 := by rw [hT3.len, List.length_map, List.length_range]
        have hG3 := e3 _ _ hG2
        have g3 : ∀ (rs : List Addr) (us : List (List Nat)), TupsAt H3 rs us → TupsAt (upd H3 G (.lst (ss.map V.ref ++ ts.map V.ref))) rs us := fun rs us h => by
          have z := (h.ne hG3).ex (ex_hid (upd H3 G (.lst (ss.map V.ref ++ ts.map V.ref))) G |> fun q => (by rw [hid_upd] at q; exact q))
          exact z
        refine ⟨G, D2, _, _, rfl, rfl, hG3, hD3, ?_, ?_⟩
        · rw [len_map, len_map, ssl, tsl]
          exact sz_of (by omega)
        · refine ⟨ss ++ ts, _, _, rfl, ?_, g3 _ _ (hT2.ex e3), ?_, ?_, Ex.mut (e2.trans e3) nG0⟩
          · refine upd_other (e3 _ _ hD2) fun z => ?_
            rw [z, nG] at hD
            cases hD
          · rw [upd_same, List.map_append]
          · rw [List.take_add_one, hu, Option.toList_some, prt1_app, prt1_one]
            exact g3 _ _ ((hS2.ex e3).app hT3)
    · obtain ⟨ss, x4, x5, rfl, hD2, hT2, hG2, hS2, e2⟩ := p
      rw [len_map, hT.len, List.take_of_length_le (Nat.le_refl _), ← prtT_succ hy] at hS2
      exact s_asg (ev_var rfl) fun H3 e3 => ⟨G, ss, _, _, _, _, rfl, e2.trans e3, nG0, e3 _ _ hG2, hS2.ex e3⟩
  · obtain ⟨D, rs, x2, x3, x4, x5, rfl, e, nD, hD, hT⟩ := p
    rw [len_map, ic_len, prtT_all] at hT
    exact s_ret (ev_var rfl) fun H2 e2 => k D H2 rs nD (e.trans e2) (e2 _ _ hD) (hT.ex e2)

/-! ### moved, heavy -/
def spMoved : Sp := fun vs H Q _ => ∃ (c s : Addr) (cs st : List Nat), vs = [.ref c, .ref s] ∧ H c = some (.tup ((ic cs).map V.int)) ∧ H s = some (.tup ((ic st).map V.int)) ∧ Tk st cs ∧ 1 ≤ cs.length ∧ cs.length ≤ 1000 ∧ RetU ((ic (mvd cs st)).map V.int) H Q
theorem u_moved {H : Hp} {c s : Addr} {cs st : List Nat} (hc : H c = some (.tup ((ic cs).map V.int))) (hs : H s = some (.tup ((ic st).map V.int))) (ht : Tk st cs) (h1 : 1 ≤ cs.length) (h2 : cs.length ≤ 1000) : SpU spMoved [.ref c, .ref s] H ((ic (mvd cs st)).map V.int) := fun H1 e Q q E => ⟨c, s, cs, st, rfl, e _ _ hc, e _ _ hs, ht, h1, h2, q⟩
theorem ok_moved (T : Txt K mg) : Good P w K mg base CX0 1 "moved" ["counts", "stay"] spMoved := by
  refine Good.of T.f_moved sc_moved (fun vs H Q E h => ?_) (fun f cdv A outer s H vs Q E hr h => ?_)
  · obtain ⟨c, s, cs, st, rfl, _⟩ := h
    rfl
  obtain ⟨c, sa, cs, st, rfl, hc, hs, ht, h1, h2, q⟩ := h
  have hl := ht.len
  refine ⟨_, (pss_cons (ps_set (i := 2) sc_moved.nd rfl (Or.inl rfl) (pe_lst (pa_cons (pe_ix (kix_tup (K := K) rfl) (pv 1) pe_int (fun _ _ => rfl)) pa_nil)))
      (pss_cons (ps_for PassesOwn.never rfl (pi_range2 (by rfl) T.b_range (pa_cons pe_int (pa_cons (pe_callB (kc_len (K := K) rfl) (by rfl) T.b_len (by decide +kernel) (pa_cons (pv 0) pa_nil)) pa_nil))) (pg_name (i := 3) sc_moved.nd rfl (Or.inl rfl)) (pss_one (ps_expr (kpe_bm (K := K) rfl (pe_bm PySem.F.plainAttrs_list PySem.F.slot_list_append PySem.F.type_list_append mt_append (pv 2) (pa_cons (pe_op op_sub (pe_op op_add (pe_ix (kix_tup (K := K) rfl) (pv 1) (pv 3) (fun _ _ => rfl)) (pe_ix (kix_tup (K := K) rfl) (pv 0) (pe_op op_sub (pv 3) pe_int) (fun _ _ => rfl))) (pe_ix (kix_tup (K := K) rfl) (pv 1) (pe_op op_sub (pv 3) pe_int) (fun _ _ => rfl))) pa_nil))))))
      (pss_one (ps_ret (pe_callTy (kc_tuple (K := K) rfl) (by rfl) T.b_tuple (by decide +kernel) (pa_cons (pv 2) pa_nil)))))), ?_⟩
  have at0 : atI ((ic st).map V.int) 0 = some (.int ((ic st).getD 0 0)) := at_int (i := 0) (by rw [ic_len]; omega)
  refine q_asgL (el_lst (ea_cons (ev_op (ev_var rfl) ev_c (rv_ixT (st_of hs) at0)) ea_nil) (by show 1 ≤ 100000; decide)) fun o H1 no e1 ho => ?_
  have ml := mvd_len (st := st) h1
  refine q_forR2 (lo := 1) (n := ((ic cs).map V.int).length) (ea_cons ev_c (ea_cons (ev_lenT (ev_var rfl) (st_of (e1 _ _ hc))) ea_nil)) (by rw [len_map, ic_len]; omega) (fun i σ' H' => ∃ x3, σ' = [some (.ref c), some (.ref sa), some (.ref o), x3] ∧ Ex H H' ∧ H' o = some (.lst ((ic ((mvd cs st).take (i + 1))).map V.int)))
    (fun H2 e2 => ⟨none, rfl, e1.trans e2, by
      rw [e2 _ _ ho, ic_get (by omega)]
      rfl⟩) (fun i σ' H' hi p => ?_) (fun σ' H' p => ?_)
  · obtain ⟨x3, rfl, e, ho⟩ := p
    rw [len_map, ic_len] at hi
    have hi2 : i + 1 < cs.length := by omega
    have k1 : (1 : Int) + (i : Int) = ((i + 1 : Nat) : Int) := by omega
    have k2 : (1 : Int) + (i : Int) - 1 = (i : Int) := by omega
    have s1 : atI ((ic st).map V.int) (1 + (i : Int)) = some (.int ((ic st).getD (i + 1) 0)) := by
      rw [k1]
      exact at_int (by rw [ic_len]; omega)
    have c0 : atI ((ic cs).map V.int) (1 + (i : Int) - 1) = some (.int ((ic cs).getD i 0)) := by
      rw [k2]
      exact at_int (by rw [ic_len]; omega)
    have s0 : atI ((ic st).map V.int) (1 + (i : Int) - 1) = some (.int ((ic st).getD i 0)) := by
      rw [k2]
      exact at_int (by rw [ic_len]; omega)
    refine s_app ho (ev_var rfl) (ev_op (ev_op (ev_op (ev_var rfl) (ev_var rfl) (rv_ixT (st_of (e _ _ hs)) s1)) (ev_op (ev_var rfl) (ev_op (ev_var rfl) ev_c rv_I0) (rv_ixT (st_of (e _ _ hc)) c0)) rv_I0) (ev_op (ev_var rfl) (ev_op (ev_var rfl) ev_c rv_I0) (rv_ixT (st_of (e _ _ hs)) s0)) rv_I0) (by rw [len_map, ic_len, List.length_take]; omega) fun H2 e2 => ?_
    refine ⟨_, rfl, Ex.mut (e.trans e2) no, ?_⟩
    have g : (mvd cs st)[i + 1]? = some (st.getD (i + 1) 0 + cs.getD i 0 - st.getD i 0) := by
      have z := mvd_get (st := st) hi2
      rw [List.getD_eq_getElem?_getD, List.getElem?_eq_getElem (by omega)] at z
      rw [List.getElem?_eq_getElem (by omega)]
      exact congrArg some z
    have tk := ht.get i
    rw [upd_same, List.take_add_one (l := mvd cs st) (i := i + 1), g, Option.toList_some, ic_app, List.map_append, ic_get (by omega), ic_get (by omega), ic_get (by omega)]
    have e3 : ((st.getD (i + 1) 0 : Nat) : Int) + ((cs.getD i 0 : Nat) : Int) - ((st.getD i 0 : Nat) : Int) = ((st.getD (i + 1) 0 + cs.getD i 0 - st.getD i 0 : Nat) : Int) := by omega
    rw [e3]
    rfl
  · obtain ⟨x3, rfl, e, ho⟩ := p
    have e4 : (((ic cs).map V.int).length - 1 : Int).toNat + 1 = cs.length := by
      rw [len_map, ic_len]
      omega
    rw [e4, List.take_of_length_le (by omega)] at ho
    exact s_retU (eu_tupV (el_var rfl ho)) fun p H2 np e2 hp => q p H2 (fresh_back e np) (e.trans e2) hp
def spHeavy : Sp := fun vs H Q _ => ∃ (c : Addr) (cs : List Nat) (q : Nat), vs = [.ref c, .int (q : Int)] ∧ H c = some (.tup ((ic cs).map V.int)) ∧ 1 ≤ cs.length ∧ cs.length ≤ 3 ∧ cs.sum ≤ 8 ∧ q ≤ 100 ∧ RetV (.bl (heavy cs q)) H Q
theorem v_heavy {H : Hp} {c : Addr} {cs : List Nat} {q : Nat} (hc : H c = some (.tup ((ic cs).map V.int))) (h1 : 1 ≤ cs.length) (h3 : cs.length ≤ 3) (h8 : cs.sum ≤ 8) (hq : q ≤ 100) : SpV spHeavy [.ref c, .int (q : Int)] H (.bl (heavy cs q)) := fun H1 e Q k E => ⟨c, cs, q, rfl, e _ _ hc, h1, h3, h8, hq, k⟩
theorem ok_heavy (T : Txt K mg) : Good P w K mg base CX0 3 "heavy" ["counts", "many"] spHeavy := by
  have g_ways_left := ok_waysleft (P := P) (w := w) (base := base) T
  refine Good.of T.f_heavy sc_heavy (fun vs H Q E h => ?_) (fun f cdv A outer s H vs Q E hr h => ?_)
  · obtain ⟨c, cs, q, rfl, _⟩ := h
    rfl
  obtain ⟨c, cs, n, rfl, hc, h1, h3, h8, hn, q⟩ := h
  refine ⟨_, (pss_cons (ps_set (i := 2) sc_heavy.nd rfl (Or.inl rfl) pe_int)
      (pss_cons (ps_for PassesOwn.never rfl (pi_range1 (by rfl) T.b_range (pa_cons (pv 1) pa_nil)) (pg_name (i := 3) sc_heavy.nd rfl (Or.inl rfl)) (pss_one (ps_set (i := 2) sc_heavy.nd rfl (Or.inl rfl) (pe_op op_mul pe_int (pv 2)))))
      (pss_cons (ps_set (i := 4) sc_heavy.nd rfl (Or.inr rfl) (pe_op op_sub (pe_callB (kc_len (K := K) rfl) (by rfl) T.b_len (by decide +kernel) (pa_cons (pv 0) pa_nil)) pe_int))
      (pss_one (ps_ret (pe_cmpR op_gt (pe_callB (kc_sum (K := K) rfl (by rfl)) (by rfl) T.b_sum (by decide +kernel) (pa_cons (pe_lc (own := [("mark", 5)]) (by rfl) sc_heavy.nd (pi_range1 (by rfl) T.b_range (pa_cons (pe_op op_add (pv 4) pe_int) pa_nil)) (blkOk_by (own := [("mark", 5)]) (N := n_heavy) (sc := defScope s_heavy) (by decide +kernel)) (fun _ _ _ _ _ => (pg_name (i := 5) sc_heavy.nd rfl (Or.inl rfl))) (fun _ _ _ _ _ => pts_nil) (fun _ _ _ _ _ => (pe_op op_mul (pe_ix (kix_tup (K := K) rfl) (pv 0) (pv 5) (fun _ _ => rfl)) (cg g_ways_left (hr.mono (by first | decide | omega)) (pa_cons (pe_op op_sub (pv 4) (pv 5)) (pa_cons (pv 1) pa_nil)))))) pa_nil)) (pv 2) (nomark _))))))), ?_⟩
  refine q_asg ev_c fun H1 e1 => ?_
  refine q_forR1 (n := (n : Int)) (ea_cons (ev_var rfl) ea_nil) (by omega) (fun i σ' H' => ∃ x3, σ' = [some (.ref c), some (.int (n : Int)), some (.int ((2 ^ i : Nat) : Int)), x3, none, none] ∧ Ex H H') (fun H2 e2 => ⟨none, rfl, e1.trans e2⟩) (fun i σ' H' hi p => ?_) (fun σ' H' p => ?_)
  · obtain ⟨x3, rfl, e⟩ := p
    exact s_asg (v := .int ((2 ^ (i + 1) : Nat) : Int)) (ev_is (ev_op ev_c (ev_var rfl) (rv_I (.inl ⟨by decide, by decide⟩))) (by rw [Nat.pow_succ]; congr 1; omega)) fun H2 e2 => ⟨_, rfl, e.trans e2⟩
  · obtain ⟨x3, rfl, e⟩ := p
    rw [Int.toNat_natCast]
    refine q_asg (v := .int ((cs.length : Int) - 1)) (ev_is (ev_op (ev_lenT (ev_var rfl) (st_of (e _ _ hc))) ev_c rv_I0) (by rw [len_map, ic_len])) fun H2 e2 => ?_
    have e2 := e.trans e2
    have en : ((cs.length : Int) - 1 + 1).toNat = cs.length := by omega
    refine s_ret (v := .bl (heavy cs n)) (ev_is (ev_op (ev_sumL (el_cI (fun k => ((cs.getD k 0 * wy (cs.length - k) n : Nat) : Int)) (ea_cons (ev_op (ev_var rfl) ev_c rv_I0) ea_nil) (by omega) (fun _ => rfl) fun k H3 e3 hk => ?_)) (ev_var rfl) rv_I0) ?_) fun H3 e3 => q H3 (e2.trans e3)
    · have hk2 : k < cs.length := by omega
      have w1 := v_waysleft (K := K) (H := H3) (l := (cs.length : Int) - 1 - (k : Int)) (n := n) (by omega) (by omega) (by omega)
      have w2 : ((cs.length : Int) - 1 - (k : Int) + 1).toNat = cs.length - k := by omega
      rw [w2] at w1
      have c8 : cs.getD k 0 ≤ 8 := by
        rw [List.getD_eq_getElem?_getD, List.getElem?_eq_getElem hk2]
        have := le_sum (List.getElem_mem hk2)
        show cs[k] ≤ 8
        omega
      refine ev_is (ev_op (ev_op (ev_var rfl) (ev_var rfl) (rv_ixT (st_of ((e2.trans e3) _ _ hc)) (at_int (by rw [ic_len]; exact hk2)))) (ev_call (ea_cons (ev_op (ev_var rfl) (ev_var rfl) rv_I0) (ea_cons (ev_var rfl) ea_nil)) w1) (rv_I (.inl (by rw [ic_get hk2]; omega)))) ?_
      rw [ic_get hk2, Int.natCast_mul]
    · rw [en, sum_cast (fun k => cs.getD k 0 * wy (cs.length - k) n)]
      unfold heavy wct
      congr 1
      rw [Bool.eq_iff_iff, decide_eq_true_eq, decide_eq_true_eq]
      omega

/-! ### enough, split -/
def RetN (P : Program) (w : World) (d : Addr) (n : Nat) (v : V) (H : Hp) (Q : VK) : Prop := ∀ H' kvs, Ex (hid H d) (hid H' d) → DN P w H' d kvs → VKv n kvs → Q v H'
def spEnough (P : Program) (w : World) (M : Nat) : Sp := fun vs H Q _ => ∃ (c d : Addr) (cs : List Nat) (q : Nat) (kvs : Kvs), vs = [.ref c, .int (q : Int), .ref d] ∧ H c = some (.tup ((ic cs).map V.int)) ∧ 1 ≤ cs.length ∧ cs.length ≤ 3 ∧ cs.sum ≤ 8 ∧ q ≤ M ∧ q ≤ 24 ∧ DN P w H d kvs ∧ VKv cs.length kvs ∧ RetN P w d cs.length (.bl (En q cs)) H Q
def spSplit (P : Program) (w : World) (M : Nat) : Sp := fun vs H Q _ => ∃ (c d : Addr) (cs : List Nat) (q : Nat) (kvs : Kvs), vs = [.ref c, .int ((q + 1 : Nat) : Int), .ref d] ∧ H c = some (.tup ((ic cs).map V.int)) ∧ 1 ≤ cs.length ∧ cs.length ≤ 3 ∧ cs.sum ≤ 8 ∧ q + 1 ≤ M ∧ q + 1 ≤ 24 ∧ DN P w H d kvs ∧ VKv cs.length kvs ∧
  (spl q cs = none → RetN P w d cs.length .non H Q) ∧ ∀ t r H' kvs', spl q cs = some t → Ex (hid H d) (hid H' d) → DN P w H' d kvs' → VKv cs.length kvs' → H' r = some (.tup ((ic t).map V.int)) → Q (.ref r) H'
theorem no_split {f : Nat} (T : Txt K mg) : Good P w K mg base CX0 f "split" ["counts", "many", "known"] (spSplit P w 0) := by
  obtain ⟨a, fd, F, hm, hb⟩ := T.f_split
  have no : ∀ vs H Q E, ¬ spSplit P w 0 vs H Q E := fun vs H Q E h => by
    obtain ⟨_, _, _, q, _, _, _, _, _, _, h, _⟩ := h
    omega
  exact ⟨a, fd, ⟨fun vs H Q E h => absurd h (no vs H Q E), fun A outer s H args us vs Q E _ _ _ _ h => absurd h (no vs H Q E)⟩, hm, F.kp, hb, LA.Fun.at F⟩
theorem enough_of {M : Nat} (T : Txt K mg) (gS : Good P w K mg base CX0 (9 + 2 * M) "split" ["counts", "many", "known"] (spSplit P w M)) : Good P w K mg base CX0 (10 + 2 * M) "enough" ["counts", "many", "known"] (spEnough P w M) := by
  have g_heavy := ok_heavy (P := P) (w := w) (base := base) T
  have g_split := gS
  have e10 : 10 + 2 * M = 9 + 2 * M + 1 := by omega
  rw [e10]
  refine Good.of T.f_enough sc_enough (fun vs H Q E h => ?_) (fun f cdv A outer s H vs Q E hr h => ?_)
  · obtain ⟨c, d, cs, q, kvs, rfl, _⟩ := h
    rfl
  obtain ⟨c, d, cs, q, kvs, rfl, hc, h1, h3, h8, hM, h24, hd, hv, k⟩ := h
  refine ⟨_, (pss_cons (ps_if (pt_cmpR op_le (pe_callB (kc_sumT (K := K) rfl (by rfl)) (by rfl) T.b_sum (by decide +kernel) (pa_cons (pv 0) pa_nil)) pe_int (nomark _)) (pss_one (ps_ret pe_bl)) pss_nil)
      (pss_cons (ps_if (PW.pt (pw_or (pt_cmpR op_eq (pv 1) pe_int (nomark _)) (pw_or1 (pt_val (cg g_heavy (hr.mono (by first | decide | omega)) (pa_cons (pv 0) (pa_cons (pv 1) pa_nil))))))) (pss_one (ps_ret pe_bl)) pss_nil)
      (pss_cons (ps_set (i := 3) sc_enough.nd rfl (Or.inl rfl) (pe_tup (pa_cons (pv 0) (pa_cons (pv 1) pa_nil))))
      (pss_cons (ps_if (pt_cmpR (op_notInN hr.units) (pv 3) (pv 2) (by rfl)) (pss_one (ps_asg (pe_cmpR op_notN (cg g_split (hr.mono (by first | decide | omega)) (pa_cons (pv 0) (pa_cons (pv 1) (pa_cons (pv 2) pa_nil)))) pe_non (nomark _)) (pg_sub (pv 2) (pv 3) (set_nest hr.units)))) pss_nil)
      (pss_one (ps_ret (pe_ix (ix_nest hr.units) (pv 2) (pv 3) (fun _ _ => rfl)))))))), ?_⟩
  refine q_when (b := decide (cs.sum ≤ 1)) (et_is (et_test (ev_op (ev_sumT (ev_var rfl) (st_of hc)) ev_c rv_I0)) (by
    rw [ic_sum, Bool.eq_iff_iff, decide_eq_true_eq, decide_eq_true_eq]
    omega)) (fun hb H1 e1 => ?_) (fun hb H1 e1 => ?_)
  · rw [En_found (of_decide_eq_true hb)] at k
    exact s_ret ev_c fun H2 e2 => k H2 kvs (hid_ex (e1.trans e2) d) (hd.ex (e1.trans e2)) hv
  have hb := of_decide_eq_false hb
  have hc1 := e1 _ _ hc
  have hd1 := hd.ex e1
  refine q_when (b := decide ((q : Int) = 0) || heavy cs q) (et_or (et_test (ev_op (ev_var rfl) ev_c rv_eqI)) fun _ => et_B (ev_call (ea_cons (ev_var rfl) (ea_cons (ev_var rfl) ea_nil)) (v_heavy hc1 h1 h3 h8 (by omega)))) (fun hb2 H2 e2 => ?_) (fun hb2 H2 e2 => ?_)
  · have hz : q = 0 ∨ heavy cs q = true := by
      rcases Bool.or_eq_true_iff.mp hb2 with z | z
      · have z := of_decide_eq_true z
        exact .inl (by omega)
      · exact .inr z
    rw [En_not hb hz] at k
    exact s_ret ev_c fun H3 e3 => k H3 kvs (hid_ex ((e1.trans e2).trans e3) d) (hd.ex ((e1.trans e2).trans e3)) hv
  obtain ⟨z1, z2⟩ := Bool.or_eq_false_iff.mp hb2
  have z1 := of_decide_eq_false z1
  obtain ⟨r, rfl⟩ : ∃ r, q = r + 1 := ⟨q - 1, by omega⟩
  have hEn := En_spl hb z2
  have hc2 := e2 _ _ hc1
  have hd2 := hd1.ex e2
  -- key
  refine q_asgU (eu_tup (ea_cons (ev_var rfl) (ea_cons (ev_var rfl) ea_nil)) (by show 2 ≤ 100000; decide)) fun ka H3 nka e3 hka => ?_
  have e13 := (e1.trans e2).trans e3
  have hc3 := e3 _ _ hc2
  have hd3 := hd2.ex e3
  have hk3 : KeyAt H3 ka (ic cs, ((r + 1 : Nat) : Int)) := ⟨c, hka, hc3⟩
  have fin : ∀ (H4 : Hp) (kvs4 : Kvs), Ex (hid H3 d) (hid H4 d) → DN P w H4 d kvs4 → VKv cs.length kvs4 → lkN kvs4 (ic cs, ((r + 1 : Nat) : Int)) = some (En (r + 1) cs) → tRet (tOp (rGetN P w) (tVar 2) (tVar 3)) { nx := fun _ H' => Q .non H', rt := Q } [some (.ref c), some (.int ((r + 1 : Nat) : Int)), some (.ref d), some (.ref ka)] H4 := fun H4 kvs4 e4 d4 v4 l4 => by
    obtain ⟨φ, hφ⟩ := hd3.at
    refine s_ret (ev_op (ev_var rfl) (ev_var rfl) (rv_getN (key_keep e4 hφ hk3) d4 l4)) fun H5 e5 => k H5 kvs4 (((hid_ex e13 d).trans e4).trans (hid_ex e5 d)) (d4.ex e5) v4
  refine q_when (b := !(lkN kvs (ic cs, ((r + 1 : Nat) : Int))).isSome) (et_test (ev_op (ev_var rfl) (ev_var rfl) (rv_notInN hk3 hd3))) (fun hb3 H4 e4 => ?_) (fun hb3 H4 e4 => ?_)
  · have hn : lkN kvs (ic cs, ((r + 1 : Nat) : Int)) = none := by
      cases z : lkN kvs (ic cs, ((r + 1 : Nat) : Int)) with
      | none => rfl
      | some b =>
        rw [z] at hb3
        cases hb3
    have hc4 := e4 _ _ hc3
    have hd4 := hd3.ex e4
    obtain ⟨φ, hφ⟩ := hd4.at
    have setd : ∀ (H5 : Hp) (kvs5 : Kvs), Ex (hid H4 d) (hid H5 d) → DN P w H5 d kvs5 → VKv cs.length kvs5 → (lkN kvs5 (ic cs, ((r + 1 : Nat) : Int)) = none ∨ lkN kvs5 (ic cs, ((r + 1 : Nat) : Int)) = some (En (r + 1) cs)) → ∀ ob, (∀ H1, Ex (hid H5 d) (hid H1 d) → H1 d = some ob → DN P w H1 d (putN kvs5 (ic cs, ((r + 1 : Nat) : Int)) (En (r + 1) cs))) →
        tRet (tOp (rGetN P w) (tVar 2) (tVar 3)) { nx := fun _ H' => Q .non H', rt := Q } [some (.ref c), some (.int ((r + 1 : Nat) : Int)), some (.ref d), some (.ref ka)] (upd H5 d ob) := fun H5 kvs5 e5 d5 v5 hl5 ob hob => by
      have eu : Ex (hid H5 d) (hid (upd H5 d ob) d) := by
        rw [hid_upd]
        exact Ex.refl _
      rcases hl5 with hl5 | hl5
      · exact fin _ _ (((hid_ex e4 d).trans e5).trans eu) (hob _ eu upd_same) (v5.put hl5 rfl h8 h24) (lk_put hl5)
      · refine fin _ _ (((hid_ex e4 d).trans e5).trans eu) (hob _ eu upd_same) (v5.over hl5) (v5.lk_over hl5)
    refine ⟨_, rfl, _, rfl, _, rfl, c, d, cs, r, kvs, rfl, hc4, h1, h3, h8, hM, h24, hd4, hv, fun hs H5 kvs5 e5 d5 v5 => ?_, fun t ra H5 kvs5 hs e5 d5 v5 hr5 => ?_⟩
    · rw [hs] at hEn
      have hl5 : lkN kvs5 (ic cs, ((r + 1 : Nat) : Int)) = none ∨ lkN kvs5 (ic cs, ((r + 1 : Nat) : Int)) = some (En (r + 1) cs) := by
        cases z : lkN kvs5 (ic cs, ((r + 1 : Nat) : Int)) with
        | none => exact .inl rfl
        | some b => exact .inr (by rw [v5.get z])
      have sd := setd H5 kvs5 e5 d5 v5 hl5
      rw [hEn] at sd
      obtain ⟨φ3, hφ3⟩ := hd3.at
      exact ⟨rfl, _, rfl, _, rfl, d, ka, _, kvs5, false, rfl, rfl, rfl, key_keep ((hid_ex e4 d).trans e5) hφ3 hk3, d5, sz_of (by have := v5.len h3; omega), sd⟩
    · rw [hs] at hEn
      have hl5 : lkN kvs5 (ic cs, ((r + 1 : Nat) : Int)) = none ∨ lkN kvs5 (ic cs, ((r + 1 : Nat) : Int)) = some (En (r + 1) cs) := by
        cases z : lkN kvs5 (ic cs, ((r + 1 : Nat) : Int)) with
        | none => exact .inl rfl
        | some b => exact .inr (by rw [v5.get z])
      have sd := setd H5 kvs5 e5 d5 v5 hl5
      rw [hEn] at sd
      obtain ⟨φ3, hφ3⟩ := hd3.at
      exact ⟨rfl, _, rfl, _, rfl, d, ka, _, kvs5, true, rfl, rfl, rfl, key_keep ((hid_ex e4 d).trans e5) hφ3 hk3, d5, sz_of (by have := v5.len h3; omega), sd⟩
  · cases z : lkN kvs (ic cs, ((r + 1 : Nat) : Int)) with
    | none =>
      rw [z] at hb3
      cases hb3
    | some b =>
      rw [hv.get z] at z
      exact fin H4 kvs (hid_ex e4 d) (hd3.ex e4) hv z
theorem split_of {M : Nat} (T : Txt K mg) (gE : Good P w K mg base CX0 (10 + 2 * M) "enough" ["counts", "many", "known"] (spEnough P w M)) : Good P w K mg base CX0 (9 + 2 * (M + 1)) "split" ["counts", "many", "known"] (spSplit P w (M + 1)) := by
  have g_parts := ok_parts (P := P) (w := w) (base := base) T
  have g_moved := ok_moved (P := P) (w := w) (base := base) T
  have g_enough := gE
  have e11 : 9 + 2 * (M + 1) = 10 + 2 * M + 1 := by omega
  rw [e11]
  refine Good.of T.f_split sc_split (fun vs H Q E h => ?_) (fun f cdv A outer s H vs Q E hr h => ?_)
  · obtain ⟨c, d, cs, q, kvs, rfl, _⟩ := h
    rfl
  obtain ⟨c, d, cs, q, kvs, rfl, hc, h1, h3, h8, hM, h24, hd, hv, kn, ks⟩ := h
  refine ⟨_, (pss_cons (ps_for PassesOwn.never rfl (kpi_list (K := K) rfl (cg g_parts (hr.mono (by first | decide | omega)) (pa_cons (pv 0) pa_nil))) (pg_name (i := 3) sc_split.nd rfl (Or.inl rfl)) (pss_cons (ps_set (i := 4) sc_split.nd rfl (Or.inl rfl) (pe_callTy (kc_tuple (K := K) rfl) (by rfl) T.b_tuple (by decide +kernel) (pa_cons (pe_lc (own := [("count", 5), ("some", 6)]) (by rfl) sc_split.nd (RZ.pi_zipA (by rfl) T.b_zip (pa_cons (pv 0) (pa_cons (pv 3) pa_nil))) (blkOk_by (own := [("count", 5), ("some", 6)]) (N := n_split) (sc := defScope s_split) (by decide +kernel)) (fun _ _ _ _ _ => (kpg_tup (K := K) (n := 2) rfl (by rfl) (pgs_cons (pg_name (i := 5) sc_split.nd rfl (Or.inl rfl)) (pgs_cons (pg_name (i := 6) sc_split.nd rfl (Or.inl rfl)) pgs_nil)))) (fun _ _ _ _ _ => pts_nil) (fun _ _ _ _ _ => (pe_op op_sub (pv 5) (pv 6)))) pa_nil)))
      (pss_one (ps_if (PW.pt (pw_and (pt_val (cg g_enough (hr.mono (by first | decide | omega)) (pa_cons (cg g_moved (hr.mono (by first | decide | omega)) (pa_cons (pv 0) (pa_cons (pv 3) pa_nil))) (pa_cons (pe_op op_sub (pv 1) pe_int) (pa_cons (pv 2) pa_nil))))) (pw_and1 (pt_val (cg g_enough (hr.mono (by first | decide | omega)) (pa_cons (cg g_moved (hr.mono (by first | decide | omega)) (pa_cons (pv 0) (pa_cons (pv 4) pa_nil))) (pa_cons (pe_op op_sub (pv 1) pe_int) (pa_cons (pv 2) pa_nil)))))))) (pss_one (ps_ret (pv 3))) pss_nil))))
      (pss_one (ps_ret pe_non))), ?_⟩
  -- for taken in parts(counts)
  refine ⟨_, rfl, c, cs, rfl, hc, h3, fun x hx => by have := le_sum hx; omega, fun D H1 rs nD e1 hD hT => ⟨D, rfl, ⟨_, sq_of hD⟩, ?_⟩⟩
  obtain ⟨φ, hφ⟩ := hd.at
  have hφ1 := e1 _ _ hφ
  have nDd : D ≠ d := fun z => by
    rw [z, hφ] at nD
    cases nD
  have ncd : c ≠ d := fun z => by
    rw [z, hφ] at hc
    cases hc
  refine for_list (K := K) (a := D) (xs := rs.map V.ref) (fun i σ' H' => ∃ x3 x4 x5 x6 kvs', σ' = [some (.ref c), some (.int ((q + 1 : Nat) : Int)), some (.ref d), x3, x4, x5, x6] ∧ Ex (hid H1 d) (hid H' d) ∧ DN P w H' d kvs' ∧ VKv cs.length kvs' ∧ ((prt cs).take i).find? (fun t => En q (mvd cs t) && En q (mvd cs (lft cs t))) = none)
    ⟨none, none, none, none, kvs, rfl, Ex.refl _, hd.ex e1, hv, rfl⟩ (fun i σ' H' _ p => by
      obtain ⟨_, _, _, _, _, _, e, _⟩ := p
      exact sq_of (keep_at e hD nDd)) (fun i x σ' H' hx p => ?_) (fun σ' H' p => ?_)
  · obtain ⟨x3, x4, x5, x6, kvs', rfl, e, hd', hv', hn⟩ := p
    rw [List.getElem?_map] at hx
    cases hq : rs[i]? with
    | none =>
      rw [hq] at hx
      cases hx
    | some r =>
      rw [hq] at hx
      obtain rfl : V.ref r = x := Option.some.inj hx
      obtain ⟨t, ht, hr1⟩ := (tups_keep e hφ1 hT).get hq
      have tk : Tk t cs := mem_prt.mp (List.mem_of_getElem? ht)
      have hc' := keep_at e (e1 _ _ hc) ncd
      obtain ⟨φ', hφ'⟩ := hd'.at
      -- left
      have zl := el_zip (K := K) (σ := [some (.ref c), some (.int ((q + 1 : Nat) : Int)), some (.ref d), some (.ref r), x4, x5, x6]) (H := H') (ta := tVar 0) (tb := tVar 3) (te := tOp (rI0 fun i j => .int (i - j)) (tVar 5) (tVar 6)) (i := 5) (j := 6) (vs := [5, 6]) (fun x y => x - y) (ev_var rfl) (ev_var rfl) hc' hr1 (by rw [ic_len, ic_len, tk.len]) (by rw [ic_len]; omega) (fun _ _ => rfl) (fun x y G => ev_op (ev_var rfl) (ev_var rfl) rv_I0)
      rw [zip_lft tk] at zl
      refine q_asgU (eu_tup zl) fun la H2 nla e2 hla => ?_
      have hd2 := hd'.ex e2
      have hc2 := e2 _ _ hc'
      have hr2 := e2 _ _ hr1
      have km : ((q + 1 : Nat) : Int) - 1 = (q : Int) := by omega
      -- enough(moved(counts, taken), many - 1, known)
      refine (eu_call (ea_cons (ev_var rfl) (ea_cons (ev_var rfl) ea_nil)) (u_moved hc2 hr2 tk h1 (by omega))) H2 (Ex.refl H2) _ fun m1 H3 nm1 e3 hm1 => ?_
      refine ⟨_, rfl, _, _, rfl, rfl, _, rfl, m1, d, mvd cs t, q, kvs', by (show [V.ref m1, V.int (((q + 1 : Nat) : Int) - 1), V.ref d] = _; rw [km]), hm1, by rw [mvd_len h1]; exact h1, by rw [mvd_len h1]; exact h3, Nat.le_trans (mvd_sum tk h3) h8, by omega, by omega, hd2.ex e3, by rw [mvd_len h1]; exact hv', fun H4 kvs4 e4 hd4 hv4 => ⟨_, rfl, ?_⟩⟩
      rw [mvd_len h1] at hv4
      have e4 : Ex (hid H' d) (hid H4 d) := (hid_ex (e2.trans e3) d).trans e4
      have nxt : ∀ (H6 : Hp) (kvs6 : Kvs), Ex (hid H' d) (hid H6 d) → DN P w H6 d kvs6 → VKv cs.length kvs6 → (En q (mvd cs t) && En q (mvd cs (lft cs t))) = false → ∃ y3 y4 y5 y6 kvs', ([some (V.ref c), some (V.int ((q + 1 : Nat) : Int)), some (V.ref d), some (V.ref r), some (V.ref la), x5, x6] : L2.St) = [some (.ref c), some (.int ((q + 1 : Nat) : Int)), some (.ref d), y3, y4, y5, y6] ∧ Ex (hid H1 d) (hid H6 d) ∧ DN P w H6 d kvs' ∧ VKv cs.length kvs' ∧ ((prt cs).take (i + 1)).find? (fun t => En q (mvd cs t) && En q (mvd cs (lft cs t))) = none := fun H6 kvs6 e6 hd6 hv6 hb => ⟨_, _, _, _, kvs6, rfl, e.trans e6, hd6, hv6, find_take_succ ht hn hb⟩
      cases hE1 : En q (mvd cs t) with
      | false =>
        rw [hE1, Bool.false_and] at nxt
        exact nxt H4 kvs4 e4 hd4 hv4 rfl
      | true =>
        rw [hE1, Bool.true_and] at nxt
        have hφ2 := hφ'
        have hc4 := keep_at e4 hc' ncd
        have hla4 : H4 la = some (.tup ((ic (lft cs t)).map V.int)) := by
          refine keep_at ((hid_ex e3 d).trans ?_) hla fun z => ?_
          · exact (by assumption : Ex (hid H3 d) (hid H4 d))
          · rw [z] at nla
            rw [hφ'] at nla
            cases nla
        have tk2 := tk.lft
        refine (eu_call (ea_cons (ev_var rfl) (ea_cons (ev_var rfl) ea_nil)) (u_moved hc4 hla4 tk2 h1 (by omega))) H4 (Ex.refl H4) _ fun m2 H5 nm2 e5 hm2 => ?_
        refine ⟨_, rfl, _, _, rfl, rfl, _, rfl, m2, d, mvd cs (lft cs t), q, kvs4, by (show [V.ref m2, V.int (((q + 1 : Nat) : Int) - 1), V.ref d] = _; rw [km]), hm2, by rw [mvd_len h1]; exact h1, by rw [mvd_len h1]; exact h3, Nat.le_trans (mvd_sum tk2 h3) h8, by omega, by omega, hd4.ex e5, by rw [mvd_len h1]; exact hv4, fun H6 kvs6 e6 hd6 hv6 => ⟨_, rfl, ?_⟩⟩
        rw [mvd_len h1] at hv6
        have e6 : Ex (hid H' d) (hid H6 d) := (e4.trans (hid_ex e5 d)).trans e6
        cases hE2 : En q (mvd cs (lft cs t)) with
        | false =>
          rw [hE2] at nxt
          exact nxt H6 kvs6 e6 hd6 hv6 rfl
        | true =>
          have hs : spl q cs = some t := find_none_snoc ht hn (by rw [hE1, hE2]; rfl)
          exact ⟨_, rfl, ks t r H6 kvs6 hs (((hid_ex e1 d).trans e).trans e6) hd6 hv6 (keep_at e6 hr1 fun z => by rw [z, hφ'] at hr1; cases hr1)⟩
  · obtain ⟨x3, x4, x5, x6, kvs', rfl, e, hd', hv', hn⟩ := p
    rw [len_map, hT.len, List.take_of_length_le (Nat.le_refl _)] at hn
    exact kn hn H' kvs' ((hid_ex e1 d).trans e) hd' hv'
theorem both (T : Txt K mg) : ∀ M : Nat, Good P w K mg base CX0 (10 + 2 * M) "enough" ["counts", "many", "known"] (spEnough P w M) ∧ Good P w K mg base CX0 (9 + 2 * M) "split" ["counts", "many", "known"] (spSplit P w M)
  | 0 => ⟨enough_of T (no_split T), no_split T⟩
  | M + 1 => by
    have ih := both T M
    have s := split_of T ih.1
    exact ⟨enough_of T s, s⟩

/-! ### need -/
def spNeed (K : PySem.W.Frag) : Sp := fun vs H Q _ => ∃ (a : Addr) (m : List Int) (L : Nat), vs = [.ref a, .int (L : Int)] ∧ SqL K H a (m.map V.int) ∧ MOk L m ∧ 1 ≤ m.length ∧ RetV (.int (nd L m : Int)) H Q
theorem v_need {H : Hp} {a : Addr} {m : List Int} {L : Nat} (ha : SqL K H a (m.map V.int)) (hm : MOk L m) (h1 : 1 ≤ m.length) : SpV (spNeed K) [.ref a, .int (L : Int)] H (.int (nd L m : Int)) := fun H1 e Q q E => ⟨a, m, L, rfl, ex_l e ha, hm, h1, q⟩
theorem ok_need (T : Txt K mg) : Good P w K mg base CX0 59 "need" ["marks", "lies"] (spNeed K) := by
  have g_asked_marks := ok_askedmarks (P := P) (w := w) (base := base) T
  have g_counted := ok_counted (P := P) (w := w) (base := base) T
  have g_enough := (both (P := P) (w := w) (base := base) T 24).1
  refine Good.of T.f_need sc_need (fun vs H Q E h => ?_) (fun f cdv A outer s H vs Q E hr h => ?_)
  · obtain ⟨a, m, L, rfl, _⟩ := h
    rfl
  obtain ⟨a, m, L, rfl, ha, hm, h1, q⟩ := h
  have h2 := hm.lies
  obtain ⟨nE, n24, nL⟩ := nd_E hm
  refine ⟨_, (pss_cons (ps_expr (cg g_asked_marks (hr.mono (by first | decide | omega)) (pa_cons (pv 0) (pa_cons (pv 1) pa_nil))))
      (pss_cons (ps_set (i := 2) sc_need.nd rfl (Or.inl rfl) (cg g_counted (hr.mono (by first | decide | omega)) (pa_cons (pv 0) (pa_cons (pv 1) pa_nil))))
      (pss_cons (ps_set (i := 3) sc_need.nd rfl (Or.inl rfl) pe_dnewN)
      (pss_cons (ps_set (i := 4) sc_need.nd rfl (Or.inl rfl) pe_int)
      (pss_cons (ps_while PassesOwn.never (pt_not (pt_val (cg g_enough (hr.mono (by first | decide | omega)) (pa_cons (pv 2) (pa_cons (pv 4) (pa_cons (pv 3) pa_nil)))))) (pss_one (ps_set (i := 4) sc_need.nd rfl (Or.inl rfl) (pe_op op_add (pv 4) pe_int))))
      (pss_one (ps_ret (pv 4)))))))), ?_⟩
  refine q_drop (ev_call (ea_cons (ev_var rfl) (ea_cons (ev_var rfl) ea_nil)) (v_askedmarks ha hm h1)) fun H1 e1 => ?_
  refine q_asgU (eu_call (ea_cons (ev_var rfl) (ea_cons (ev_var rfl) ea_nil)) (u_counted (ex_l e1 ha) (by omega))) fun c H2 nc e2 hc => ?_
  have e2 := e1.trans e2
  intro d nd'
  have nd0 := fresh_back e2 nd'
  refine q_asg (v := .int ((0 : Nat) : Int)) ev_c fun H3 e3 => ?_
  have e23 := (Ex.new nd').trans e3
  have hc3 := e23 _ _ hc
  have hd3 : DN P w H3 d [] := ⟨[], e3 _ _ upd_same, .nil⟩
  have ncd : c ≠ d := fun z => by
    rw [z, nd'] at hc
    cases hc
  have s8 : (LA.cnt L m).sum ≤ 8 := by
    rw [cnt_sum hm.mks.nn]
    have z : LA.sta (L : Int) m ≤ m.length := List.countP_le_length
    have := hm.len
    omega
  refine ⟨fun n σ' H' => ∃ (j : Nat) (kvs : Kvs), n = LA.nd L m - j ∧ j ≤ LA.nd L m ∧ σ' = [some (.ref a), some (.int (L : Int)), some (.ref c), some (.ref d), some (.int (j : Int))] ∧ Ex (hid H3 d) (hid H' d) ∧ DN P w H' d kvs ∧ VKv (LA.cnt L m).length kvs, ⟨_, 0, [], rfl, Nat.zero_le _, rfl, Ex.refl _, hd3, VKv.nil _⟩, fun n σ' H' wi => ?_⟩
  obtain ⟨j, kvs, rfl, hj, rfl, e, hd, hv⟩ := wi
  refine ⟨_, rfl, _, rfl, _, rfl, c, d, LA.cnt L m, j, kvs, rfl, keep_at e hc3 ncd, by rw [cnt_len]; omega, by rw [cnt_len]; omega, s8, by omega, by omega, hd, hv, fun H4 kvs4 e4 hd4 hv4 => ⟨_, rfl, ?_⟩⟩
  have e4 := e.trans e4
  by_cases hjn : j = LA.nd L m
  · rw [hjn, nE]
    show tRet (tVar 4) _ _ _
    have e5 : Ex H H4 := ex_of_hid ((e2.trans (Ex.new nd')).trans e3) nd0 e4
    exact s_ret (ev_var rfl) fun H5 e6 => q H5 (e5.trans e6)
  · rw [nL j (by omega)]
    refine ⟨fun σ' H' => ∃ (kvs : Kvs), σ' = [some (.ref a), some (.int (L : Int)), some (.ref c), some (.ref d), some (.int ((j + 1 : Nat) : Int))] ∧ Ex (hid H3 d) (hid H' d) ∧ DN P w H' d kvs ∧ VKv (LA.cnt L m).length kvs, fun σ' H' wi => ?_, ?_⟩
    · obtain ⟨kvs, h1, h2, h3, h4⟩ := wi
      exact ⟨_, by omega, j + 1, kvs, rfl, by omega, h1, h2, h3, h4⟩
    · exact s_asg (ev_op (ev_var rfl) ev_c rv_I0) fun H5 e5 => ⟨kvs4, rfl, e4.trans (hid_ex e5 d), hd4.ex e5, hv4⟩

/-! ### question -/
def spQuestion (K : PySem.W.Frag) : Sp := fun vs H Q _ => ∃ (a : Addr) (m : List Int) (L : Nat), vs = [.ref a, .int (L : Int)] ∧ SqL K H a (m.map V.int) ∧ MOk L m ∧ 1 ≤ m.length ∧
  (LA.nd L m = 0 → RetV .non H Q) ∧ ∀ (q : Nat) (t : List Nat), LA.nd L m = q + 1 → LA.spl q (LA.cnt L m) = some t → RetL ((ixs (grd L m t)).map V.int) H Q
theorem ok_question (T : Txt K mg) : Good P w K mg base CX0 60 "question" ["marks", "lies"] (spQuestion K) := by
  have g_need := ok_need (P := P) (w := w) (base := base) T
  have g_counted := ok_counted (P := P) (w := w) (base := base) T
  have g_split := (both (P := P) (w := w) (base := base) T 24).2
  refine Good.of T.f_question sc_question (fun vs H Q E h => ?_) (fun f cdv A outer s H vs Q E hr h => ?_)
  · obtain ⟨a, m, L, rfl, _⟩ := h
    rfl
  obtain ⟨a, m, L, rfl, ha, hm, h1, qn, qs⟩ := h
  have h2 := hm.lies
  have h8 := hm.len
  refine ⟨_, (pss_cons (ps_set (i := 2) sc_question.nd rfl (Or.inl rfl) (cg g_need (hr.mono (by first | decide | omega)) (pa_cons (pv 0) (pa_cons (pv 1) pa_nil))))
      (pss_cons (ps_if (pt_cmpR op_eq (pv 2) pe_int (nomark _)) (pss_one (ps_ret pe_non)) pss_nil)
      (pss_cons (ps_set (i := 3) sc_question.nd rfl (Or.inl rfl) (pe_callTy (kc_list (K := K) rfl) (by rfl) T.b_list (by decide +kernel) (pa_cons (cg g_split (hr.mono (by first | decide | omega)) (pa_cons (cg g_counted (hr.mono (by first | decide | omega)) (pa_cons (pv 0) (pa_cons (pv 1) pa_nil))) (pa_cons (pv 2) (pa_cons pe_dnewN pa_nil)))) pa_nil)))
      (pss_cons (ps_set (i := 4) sc_question.nd rfl (Or.inl rfl) (pe_lst pa_nil))
      (pss_cons (ps_for PassesOwn.never rfl (pi_range1 (by rfl) T.b_range (pa_cons (pe_callB (kc_len (K := K) rfl) (by rfl) T.b_len (by decide +kernel) (pa_cons (pv 0) pa_nil)) pa_nil)) (pg_name (i := 5) sc_question.nd rfl (Or.inl rfl)) (pss_one (ps_if (PW.pt (pw_and (pt_cmpR op_le (pe_ix (kix_list (K := K) rfl) (pv 0) (pv 5) (fun _ _ => rfl)) (pv 1) (nomark _)) (pw_and1 (pt_cmpR op_gt (pe_ix (kix_list (K := K) rfl) (pv 3) (pe_ix (kix_list (K := K) rfl) (pv 0) (pv 5) (fun _ _ => rfl)) (fun _ _ => rfl)) pe_int (nomark _))))) (pss_cons (ps_asg (pe_op op_sub (pe_ix (kix_list (K := K) rfl) (pv 3) (pe_ix (kix_list (K := K) rfl) (pv 0) (pv 5) (fun _ _ => rfl)) (fun _ _ => rfl)) pe_int) (pg_sub (pv 3) (pe_ix (kix_list (K := K) rfl) (pv 0) (pv 5) (fun _ _ => rfl)) set_list))
      (pss_one (ps_expr (kpe_bm (K := K) rfl (pe_bm PySem.F.plainAttrs_list PySem.F.slot_list_append PySem.F.type_list_append mt_append (pv 4) (pa_cons (pv 5) pa_nil)))))) pss_nil)))
      (pss_one (ps_ret (pv 4)))))))), ?_⟩
  refine q_asg (ev_call (ea_cons (ev_var rfl) (ea_cons (ev_var rfl) ea_nil)) (v_need ha hm h1)) fun H1 e1 => ?_
  refine q_when (b := decide ((LA.nd L m : Int) = 0)) (et_test (ev_op (ev_var rfl) ev_c rv_eqI)) (fun hb H2 e2 => ?_) (fun hb H2 e2 => ?_)
  · have hb := of_decide_eq_true hb
    exact s_ret ev_c fun H3 e3 => qn (by omega) H3 ((e1.trans e2).trans e3)
  have hb := of_decide_eq_false hb
  obtain ⟨q, hq⟩ : ∃ q, LA.nd L m = q + 1 := ⟨LA.nd L m - 1, by omega⟩
  obtain ⟨t, ht, tk, _⟩ := spl_need hm hq
  have e2 := e1.trans e2
  have n24 := (nd_E hm).2.1
  have s8 : (LA.cnt L m).sum ≤ 8 := by
    rw [cnt_sum hm.mks.nn]
    have z : LA.sta (L : Int) m ≤ m.length := List.countP_le_length
    omega
  have tl' : t.length = L + 1 := by rw [tk.len, cnt_len]
  rw [hq]
  -- taken
  refine (eu_call (ea_cons (ev_var rfl) (ea_cons (ev_var rfl) ea_nil)) (u_counted (ex_l e2 ha) (by omega))) H2 (Ex.refl H2) _ fun c H3 nc e3 hc => ?_
  refine ⟨_, rfl, fun d nd' => ?_⟩
  have ed : Ex H2 (upd H3 d (.ext (ndP P w d []))) := e3.trans (Ex.new nd')
  have ncd : c ≠ d := fun z => by
    rw [z, nd'] at hc
    cases hc
  refine ⟨c, d, LA.cnt L m, q, [], rfl, Ex.new nd' _ _ hc, by rw [cnt_len]; omega, by rw [cnt_len]; omega, s8, by omega, by omega, ⟨[], upd_same, .nil⟩, VKv.nil _, fun hn => (by rw [ht] at hn; cases hn), fun t' r H4 kvs ht' e4 _ _ hr4 => ?_⟩
  rw [ht] at ht'
  obtain rfl : t = t' := Option.some.inj ht'
  have e4' : Ex H H4 := ex_of_hid (e2.trans ed) (fresh_back (e2.trans e3) nd') e4
  refine ⟨r, _, rfl, .inr (st_of hr4), fun ta nta => ?_⟩
  have nta0 := fresh_back e4' nta
  have e5 : Ex H (upd H4 ta (.lst ((ic t).map V.int))) := e4'.trans (Ex.new nta)
  -- found
  refine q_asgL (xs := []) (el_lst ea_nil (Nat.zero_le _)) fun o H6 no e6 ho => ?_
  have e6' := e5.trans e6
  have no0 := fresh_back e5 no
  have nto : ta ≠ o := fun z => by
    rw [← z, upd_same] at no
    cases no
  refine q_forR1 (n := ((m.map V.int).length : Int)) (ea_cons (ev_len (ev_var rfl) (ex_l e6' ha)) ea_nil) (by rw [len_map]; omega)
    (fun i σ' H' => ∃ x5 pre ti, σ' = [some (.ref a), some (.int (L : Int)), some (.int ((q + 1 : Nat) : Int)), some (.ref ta), some (.ref o), x5] ∧ Ex H H' ∧ H' ta = some (.lst ((ic ti).map V.int)) ∧ H' o = some (.lst ((ixs pre).map V.int)) ∧ pre.length = i ∧ ti.length = L + 1 ∧ grd L m t = pre ++ grd L (m.drop i) ti)
    (fun H7 e7 => ⟨none, [], t, rfl, e6'.trans e7, e7 _ _ (e6 _ _ upd_same), e7 _ _ ho, rfl, tl', rfl⟩) (fun i σ' H' hi p => ?_) (fun σ' H' p => ?_)
  · obtain ⟨x5, pre, ti, rfl, e, hta, ho, hp, hti, hg⟩ := p
    rw [len_map] at hi
    have hi : i < m.length := by omega
    have hd : m.drop i = m.getD i 0 :: m.drop (i + 1) := by
      rw [List.drop_eq_getElem_cons hi, List.getD_eq_getElem?_getD, List.getElem?_eq_getElem hi]
      rfl
    have hx := mks_getD hm.mks hi
    generalize m.getD i 0 = x at hd hx
    obtain ⟨k, rfl⟩ : ∃ k : Nat, x = (k : Int) := ⟨x.toNat, by omega⟩
    have hg2 : grd L (m.drop i) ti = if ((k : Int) ≤ (L : Int) ∧ 0 < ti.getD k 0) then true :: grd L (m.drop (i + 1)) (ti.set k (ti.getD k 0 - 1)) else false :: grd L (m.drop (i + 1)) ti := by
      rw [hd]
      rfl
    have hma : ∀ G, Ex H G → Ev (tOp (rIxL K) (tVar 0) (tVar 5)) [some (.ref a), some (.int (L : Int)), some (.int ((q + 1 : Nat) : Int)), some (.ref ta), some (.ref o), some (.int (i : Int))] G (.int (k : Int)) := fun G eG => by
      have z := at_int (ns := m) hi
      have e7 : m.getD i 0 = (k : Int) := by
        have z2 := congrArg List.head? hd
        rw [List.head?_drop] at z2
        rw [List.getD_eq_getElem?_getD, z2]
        rfl
      rw [e7] at z
      exact ev_op (ev_var rfl) (ev_var rfl) (rv_ixL (ex_l eG ha) z)
    refine s_when (b := decide ((k : Int) ≤ (L : Int)) && decide ((0 : Int) < (ti.getD k 0 : Nat))) (et_and (et_test (ev_op (hma H' e) (ev_var rfl) rv_I0)) fun hk => et_test (ev_op (ev_op (ev_var rfl) (hma H' e) (rv_ixL (v := .int ((ti.getD k 0 : Nat) : Int)) (sq_of hta) (by
      have hk := of_decide_eq_true hk
      rw [← ic_get (by omega)]
      exact at_int (by rw [ic_len]; omega)))) ev_c rv_I0)) (fun hb H7 e7 => ?_) (fun hb H7 e7 => ?_)
    · obtain ⟨hk, hk2⟩ := Bool.and_eq_true_iff.mp hb
      have hk := of_decide_eq_true hk
      have hk2 := of_decide_eq_true hk2
      rw [if_pos ⟨hk, by omega⟩] at hg2
      have e7' := e.trans e7
      have hta7 := e7 _ _ hta
      have tat : ∀ G, G ta = some (.lst ((ic ti).map V.int)) → Ex H G → Ev (tOp (rIxL K) (tVar 3) (tOp (rIxL K) (tVar 0) (tVar 5))) [some (.ref a), some (.int (L : Int)), some (.int ((q + 1 : Nat) : Int)), some (.ref ta), some (.ref o), some (.int (i : Int))] G (.int ((ti.getD k 0 : Nat) : Int)) := fun G hG eG => ev_op (ev_var rfl) (hma G eG) (rv_ixL (sq_of hG) (by
        rw [← ic_get (by omega)]
        exact at_int (by rw [ic_len]; omega)))
      refine q_setL (j := k) hta7 (ev_op (tat H7 hta7 e7') ev_c rv_I0) (ev_var rfl) (hma H7 e7') (by rw [len_map, ic_len]; omega) fun H8 e8 => ?_
      have e8' : Ex H (upd H8 ta (.lst (((ic ti).map V.int).set k (.int (((ti.getD k 0 : Nat) : Int) - 1))))) := Ex.mut (e7'.trans e8) nta0
      have ho8 : upd H8 ta (.lst (((ic ti).map V.int).set k (.int (((ti.getD k 0 : Nat) : Int) - 1)))) o = some (.lst ((ixs pre).map V.int)) := upd_other ((e7.trans e8) _ _ ho) (Ne.symm nto)
      refine s_app ho8 (ev_var rfl) (ev_var rfl) (by rw [len_map]; have := ixs_len pre; omega) fun H9 e9 => ?_
      refine ⟨_, pre ++ [true], ti.set k (ti.getD k 0 - 1), rfl, Ex.mut (e8'.trans e9) no0, ?_, ?_, by simp [hp], by simp [hti], by rw [hg, hg2]; simp⟩
      · rw [upd_ne nto, e9 _ _ upd_same, ← List.map_set]
        have e10 : ((ti.getD k 0 : Nat) : Int) - 1 = ((ti.getD k 0 - 1 : Nat) : Int) := by omega
        rw [e10, ic_set]
      · rw [upd_same, ixs_snoc, if_pos rfl, List.map_append, hp]
        rfl
    · have hcond : ¬ ((k : Int) ≤ (L : Int) ∧ 0 < ti.getD k 0) := fun z => by
        rw [decide_eq_true z.1, Bool.true_and] at hb
        have := of_decide_eq_false hb
        omega
      rw [if_neg hcond] at hg2
      refine ⟨_, pre ++ [false], ti, rfl, e.trans e7, e7 _ _ hta, ?_, by simp [hp], hti, by rw [hg, hg2]; simp⟩
      rw [ixs_snoc, if_neg Bool.false_ne_true]
      exact e7 _ _ ho
  · obtain ⟨x5, pre, ti, rfl, e, hta, ho, hp, hti, hg⟩ := p
    rw [len_map, Int.toNat_natCast] at hg
    rw [List.drop_of_length_le (Nat.le_refl _)] at hg
    have hg : grd L m t = pre := by
      rw [hg]
      exact List.append_nil pre
    rw [← hg] at ho
    exact s_ret (ev_var rfl) fun H7 e7 => qs q t hq ht o H7 no0 (e.trans e7) (e7 _ _ ho)

theorem MOk.afq {L : Nat} {m : List Int} (h : MOk L m) (q : List Int) (y : Bool) : MOk L (LA.afq (L : Int) m q y) := by
  rw [afq_aft]
  exact h.aft (qb_len q _) y

/-! ### answer -/
theorem c_max2 {X : Cx} (hc : X.calm = true) : CallR X (.builtin "max") rMax2 := call_max2 hc
def hardB (L : Nat) (m q : List Int) : Bool := decide ((LA.nd L (afq (L : Int) m q false) : Int) ≤ (LA.nd L (afq (L : Int) m q true) : Int))
def spAnswer (K : PySem.W.Frag) : Sp := fun vs H Q _ => ∃ (a b : Addr) (m q : List Int) (L : Nat), vs = [.ref a, .int (L : Int), .ref b] ∧ SqL K H a (m.map V.int) ∧ SqL K H b (q.map V.int) ∧ MOk L m ∧ 1 ≤ m.length ∧ Rise (-1) q (m.length : Int) ∧ RetV (.bl (hardB L m q)) H Q
theorem v_answer {H : Hp} {a b : Addr} {m q : List Int} {L : Nat} (ha : SqL K H a (m.map V.int)) (hb : SqL K H b (q.map V.int)) (hm : MOk L m) (h1 : 1 ≤ m.length) (hq : Rise (-1) q (m.length : Int)) : SpV (spAnswer K) [.ref a, .int (L : Int), .ref b] H (.bl (hardB L m q)) :=
  fun H1 e Q q' E => ⟨a, b, m, q, L, rfl, ex_l e ha, ex_l e hb, hm, h1, hq, q'⟩
theorem ok_answer (T : Txt K mg) : Good P w K mg base CX0 60 "answer" ["marks", "lies", "asked"] (spAnswer K) := by
  have g_need := ok_need (P := P) (w := w) (base := base) T
  have g_after := ok_after (P := P) (w := w) (base := base) T
  refine Good.of T.f_answer sc_answer (fun vs H Q E h => ?_) (fun f cdv A outer s H vs Q E hr h => ?_)
  · obtain ⟨a, b, m, q, L, rfl, _⟩ := h
    rfl
  obtain ⟨a, b, m, q, L, rfl, ha, hb, hm, h1, hq, k⟩ := h
  refine ⟨_, (pss_one (ps_ret (pe_cmpR op_ge (cg g_need (hr.mono (by first | decide | omega)) (pa_cons (cg g_after (hr.mono (by first | decide | omega)) (pa_cons (pv 0) (pa_cons (pv 1) (pa_cons (pv 2) (pa_cons pe_bl pa_nil))))) (pa_cons (pv 1) pa_nil))) (cg g_need (hr.mono (by first | decide | omega)) (pa_cons (cg g_after (hr.mono (by first | decide | omega)) (pa_cons (pv 0) (pa_cons (pv 1) (pa_cons (pv 2) (pa_cons pe_bl pa_nil))))) (pa_cons (pv 1) pa_nil))) (nomark _)))), ?_⟩
  have nn : ∀ y : Bool, Ev (tCall (spNeed K) [] E0 (tCons (tCall (spAfter K) [] E0 (tCons (tVar 0) (tCons (tVar 1) (tCons (tVar 2) (tCons (tC (.bl y)) tNil))))) (tCons (tVar 1) tNil))) [some (.ref a), some (.int (L : Int)), some (.ref b)] H (.int (LA.nd L (LA.afq (L : Int) m q y) : Int)) := fun y =>
    ev_callL1 (y := .int (L : Int)) (el_call (ea_cons (ev_var rfl) (ea_cons (ev_var rfl) (ea_cons (ev_var rfl) (ea_cons ev_c ea_nil)))) (l_after ha hb hm h1 hq)) (fun _ _ => ev_var rfl) fun p G e hp => v_need (sq_of hp) (MOk.afq hm q y) (by rw [afq_len]; omega)
  exact s_ret (ev_op (nn true) (nn false) rv_I0) k


/-! ### shown, read -/
def spShown (K : PySem.W.Frag) : Sp := fun vs H Q _ => ∃ (a : Addr) (m : List Int) (L : Nat), vs = [.ref a, .int (L : Int)] ∧ SqL K H a (m.map V.int) ∧ MOk L m ∧ 1 ≤ m.length ∧ RetV (.str (tx (m.map (sg (L : Int))))) H Q
theorem v_shown {H : Hp} {a : Addr} {m : List Int} {L : Nat} (ha : SqL K H a (m.map V.int)) (hm : MOk L m) (h1 : 1 ≤ m.length) : SpV (spShown K) [.ref a, .int (L : Int)] H (.str (tx (m.map (sg (L : Int))))) := fun H1 e Q q E => ⟨a, m, L, rfl, ex_l e ha, hm, h1, q⟩
theorem sum_ones (f : Int → Str) (h : ∀ x, (f x).length = 1) : ∀ m : List Int, ((m.map f).map (·.length)).sum = m.length
  | [] => rfl
  | x :: r => by
    rw [List.map_cons, List.map_cons, List.sum_cons, sum_ones f h r, h x, List.length_cons, Nat.add_comm]
theorem ok_shown (T : Txt K mg) : Good P w K mg base CX0 3 "shown" ["marks", "lies"] (spShown K) := by
  have g_asked_marks := ok_askedmarks (P := P) (w := w) (base := base) T
  refine Good.of T.f_shown sc_shown (fun vs H Q E h => ?_) (fun f cdv A outer s H vs Q E hr h => ?_)
  · obtain ⟨a, m, L, rfl, _⟩ := h
    rfl
  obtain ⟨a, m, L, rfl, ha, hm, h1, q⟩ := h
  have h8 := hm.len
  have h2 := hm.lies
  refine ⟨_, (pss_cons (ps_expr (cg g_asked_marks (hr.mono (by first | decide | omega)) (pa_cons (pv 0) (pa_cons (pv 1) pa_nil))))
      (pss_one (ps_ret (pe_join pe_str (pe_lc (own := [("mark", 2)]) (by rfl) sc_shown.nd (kpi_list (K := K) rfl (pv 0)) (blkOk_by (own := [("mark", 2)]) (N := n_shown) (sc := defScope s_shown) (by decide +kernel)) (fun _ _ _ _ _ => (pg_name (i := 2) sc_shown.nd rfl (Or.inl rfl))) (fun _ _ _ _ _ => pts_nil) (fun _ _ _ _ _ => (pe_ifExp (pt_cmpR op_le (pv 2) (pv 1) (nomark _)) (pe_ix ix_str (pe_glob (v := .str (Str.ofString "012")) (by rfl) (T.c_FIGURES).choose_spec ⟨_, rfl⟩) (pv 2) (fun _ _ => rfl)) pe_str))))))), ?_⟩
  refine q_drop (ev_call (ea_cons (ev_var rfl) (ea_cons (ev_var rfl) ea_nil)) (v_askedmarks ha hm h1)) fun H1 e1 => ?_
  refine s_ret (v := .str (tx (m.map (sg (L : Int))))) (ev_is (ev_joinS (K := K) (ys := m.map fun x => tx [sg (L : Int) x]) ev_c (el_cLS (fun x => tx [sg (L : Int) x]) (ev_var rfl) (ex_l e1 ha) (by omega) (fun _ => rfl) fun x H2 e2 hx => ?_) ?_) ?_) fun H2 e2 => q H2 (e1.trans e2)
  · have hx2 := hm.mks x hx
    refine ev_if (b := decide (x ≤ (L : Int))) (et_test (ev_op (ev_var rfl) (ev_var rfl) rv_I0)) (fun hb => ?_) (fun hb => ?_)
    · have hb := of_decide_eq_true hb
      obtain ⟨k, rfl⟩ : ∃ k : Nat, x = (k : Int) := ⟨x.toNat, by omega⟩
      refine ev_is (ev_op (ev_c (v := .str (Str.ofString "012"))) (ev_var rfl) (rv_ixS (w := Str.ofString "012") (c := 48 + k) (by rw [s012, tx_len]; show 3 ≤ 100000; decide) ?_)) ?_
      · rw [s012]
        refine atS ?_
        have h3 : k = 0 ∨ k = 1 ∨ k = 2 := by omega
        rcases h3 with rfl | rfl | rfl <;> rfl
      · unfold sg
        rw [if_pos hb]
        rfl
    · have hb := of_decide_eq_false hb
      refine ev_is ev_c ?_
      unfold sg
      rw [if_neg hb, sX]
  · rw [sum_ones _ (fun x => tx_len _), len_map, sE, tx_len]
    show m.length + m.length * 0 ≤ 1000
    omega
  · rw [sE]
    have e := tx_join (m.map (sg (L : Int)))
    rw [List.map_map] at e
    exact congrArg V.str e

/-! ### defs that raise -/
section
variable {k : Nat} {x : Str} {ps N : List Str} {sp sp' : Sp} {st : Stmt}
theorem Good.ofX (F : Fn K mg x st ps) (S : FnScope N ps (defScope st)) (len : ∀ vs H Q E, sp vs H Q E → vs.length = ps.length)
    (body : ∀ (f : Addr) (cdv : Value) (A : Around) (outer : List Env) (s : Shared) (H : Hp) (vs : List V) (Q : VK) (E : XK), Room k (A.deeper (envOfC x (defScope st) s.heap.objs.size f cdv)) → sp vs H Q E →
      ∃ t, PSs (cxOf (L2.CX P w) P w K mg base N x (defScope st) f cdv A outer s H E) (defBody st) t ∧ t { nx := fun _ H' => Q .non H', rt := Q } (start N vs) H) : Good P w K mg base (L2.CX P w) (k + 1) x ps sp := by
  obtain ⟨f, fd, a, b, c⟩ := F
  exact ⟨f, fd, a.okX S len fun cdv A outer s H vs Q E hr h => body f cdv A outer s H vs Q E hr h, b, a.kp, c, LA.Fun.at a⟩
/-- two promises of one def: the first raises nothing -/
theorem joinX (g : Good P w K mg base CX0 k x ps sp) (g' : Good P w K mg base (L2.CX P w) k x ps sp') : Good P w K mg base (L2.CX P w) k x ps (fun vs H Q E => sp vs H Q E ∨ sp' vs H Q E) := by
  obtain ⟨f, fd, a, b, c, d, e⟩ := g
  obtain ⟨f', fd', a', b', c', d', e'⟩ := g'
  have ef : f = f' := by
    rw [b] at b'
    cases b'
    rfl
  subst ef
  have efd := e.one e'
  subst efd
  refine ⟨f, fd, ⟨fun vs H Q E h => h.elim (a.len vs H Q E) (a'.len vs H Q E), fun A outer s H args us vs Q E hr he hb hv h => ?_⟩, b, c, d, e⟩
  rcases h with h | h
  · refine codeAny_mono (a.run A outer s H args us vs Q E hr he hb hv h) fun r s' hq => ?_
    cases r with
    | error e => exact False.elim hq
    | ok fl => cases fl <;> exact hq
  · exact a'.run A outer s H args us vs Q E hr he hb hv h
theorem join0 (g : Good P w K mg base CX0 k x ps sp) (g' : Good P w K mg base CX0 k x ps sp') : Good P w K mg base CX0 k x ps (fun vs H Q E => sp vs H Q E ∨ sp' vs H Q E) := by
  obtain ⟨f, fd, a, b, c, d, e⟩ := g
  obtain ⟨f', fd', a', b', c', d', e'⟩ := g'
  have ef : f = f' := by
    rw [b] at b'
    cases b'
    rfl
  subst ef
  have efd := e.one e'
  subst efd
  refine ⟨f, fd, ⟨fun vs H Q E h => h.elim (a.len vs H Q E) (a'.len vs H Q E), fun A outer s H args us vs Q E hr he hb hv h => ?_⟩, b, c, d, e⟩
  rcases h with h | h
  · exact a.run A outer s H args us vs Q E hr he hb hv h
  · exact a'.run A outer s H args us vs Q E hr he hb hv h
end
/-- a call of a def that may raise; what it lets out is wished for by W -/
theorem cgX {X : Cx} {W : WX} {k : Nat} {x : Str} {ps : List Str} {sp : Sp} {e : Expr} {es : List Expr} {t : TA} {p pos : Pos} (g : Good X.prog X.w X.K X.mg X.base (L2.CX X.prog X.w) k x ps sp) (tk : L2.Takes X W) (hr : Room k X.A) (ha : PA X (e :: es) t) (hg : Gl X x := by rfl)
    (hd : (x == ("__debug__" : Str)) = false := by decide) (h1 : starEach (e :: es) X.env = (false, eval e X.env) :: starEach es X.env := by rfl) (h2 : (backTo pos (starEach es X.env)).any (·.1) = false := by rfl) :
    PE X (.Call (.Name x p) (e :: es) [] pos) (tCallS sp (WE W) t) := by
  obtain ⟨f, fd, a, b, c, d⟩ := g
  exact pe_callS a hr hg b c d.1 (fun σ => passAt tk σ) ha hd h1 h2
/-- what the top says of a class of refusals -/
structure ExF (K : PySem.W.Frag) (mg : Str → Option Value) (x : Str) (C : Addr) : Prop where
  g : mg x = some (.ref C)
  xx : PySem.W.excIn K C [.type "ValueError", .type "Exception", .type "BaseException", .type "object"] "ValueError.__new__" = true
  kp : PySem.W.keepIn K (.ref C) = true
  ty : PySem.W.typeIn K (.ref C) = some (.type "type")
  C : ExcC K C
theorem ps_raiseC {X : Cx} {W : WX} {x m : Str} {C : Addr} {j : Nat} {p p2 pos pos' : Pos} (e : ExF X.K X.mg x C) (tk : L2.Takes X W) (hc : X.calm = true) (hg : Gl X x := by rfl) (hd : (x == ("__debug__" : Str)) = false := by decide) :
    PS X (.Raise (some (.Call (.Name x p) [.Constant (.str m) j p2] [] pos)) none pos') (fun _ σ H => W (.ref C) none σ H) :=
  ps_raise hc tk (pmk_own PySem.F.excBase_ValueError e.xx e.g e.kp (raises_own e.C.hs e.ty) hg hd)
/-- a def that refuses -/
def spBad (φ : List V → Hp → Addr → Prop) : Sp := fun vs H _ E => ∃ C, φ vs H C ∧ ∀ H', Ex H H' → E (.ref C) none H'
/-! ### a def called where an exception is handled: the exception is its argument -/
def GoodP (P : Program) (w : World) (K : PySem.W.Frag) (mg : Str → Option Value) (base : Heap) (k : Nat) (x : Str) (ps : List Str) (sp : Addr → Value → Option Addr → Sp) : Prop :=
  ∃ f fd, (∀ a c d vs H Q E, sp a c d vs H Q E → vs.length = ps.length) ∧
    (∀ (p : Addr × Obj) (c : Value) (d : Option Addr) (A : Around) (outer : List Env) (s : Shared) (H : Hp) (us : List Value) (vs : List V) (Q : VK) (E : XK), Zc c d p.2 → (∃ vs, p.2.data = .fields vs) → L2H.RoomH k A → L2H.PinOk outer H s p → Env0 P w K mg base A outer s H →
      BindsTo s fd ⟨us, []⟩ (ps.zip us) → Vals vs us → sp p.1 c d vs H Q E → codeAny (model P w) A (.call (.ref f) ⟨us, []⟩) (CR CX0 outer P w H s Q E) s) ∧
    mg x = some (.ref f) ∧ PySem.W.keepIn K (.ref f) = true ∧ Binds K fd ps []
theorem GoodP.of {k : Nat} {x : Str} {ps N : List Str} {sp : Addr → Value → Option Addr → Sp} {st : Stmt} (F : Fn K mg x st ps) (S : FnScope N ps (defScope st)) (len : ∀ a c d vs H Q E, sp a c d vs H Q E → vs.length = ps.length)
    (body : ∀ (f : Addr) (cdv : Value) (A : Around) (outer : List Env) (s : Shared) (H : Hp) (vs : List V) (Q : VK) (E : XK) (p : Addr × Obj) (c : Value) (d : Option Addr), Zc c d p.2 → (∃ vs, p.2.data = .fields vs) → L2H.RoomH k (A.deeper (envOfC x (defScope st) s.heap.objs.size f cdv)) → sp p.1 c d vs H Q E →
      ∃ t, PSs (L2H.cxH CX0 P w K mg base N x (defScope st) f cdv A outer s H E p) (defBody st) t ∧ t { nx := fun _ H' => Q .non H', rt := Q } (start N vs) H) : GoodP P w K mg base (k + 1) x ps sp := by
  obtain ⟨f, fd, G, gm, gb⟩ := F
  refine ⟨f, fd, len, fun p c d A outer s H us vs Q E hz hf room pin env bind vals prom => ?_, gm, G.kp, gb⟩
  obtain ⟨oc, od, kV, doc, pm, an, cdv, ct, osl, rfl, look, code⟩ := G.ex
  have long := len _ _ _ _ _ _ _ prom
  have kin : K.In s.heap := env.mod.kin.keeps fun b o q => (env.bs b o q).1
  have free : s.heap.NoLimit := env.mod.nolimit.keeps fun b o q => (env.bs b o q).1
  have kinds : ∀ y ∈ ps.zip us, (defScope st).names.lookup y.1 = some .local ∨ ((defScope st).names.lookup y.1 = some .cell ∧ ((cellsFrom (s.heap.objs.size + 1) (defScope st).names []).lookup y.1).isSome = true) := by
    rintro ⟨n, v⟩ hy
    exact (S.par n (List.of_mem_zip hy).1).imp id fun z => ⟨z, PySem.W.cellsFrom_some _ _ _ (.inl z)⟩
  refine codeAny_call_function room.depth (kin _ _ look) rfl S.co S.gen rfl (PySem.W.codeRec_of kin code) (bind _ _ _ _ ?_)
  refine wpAny_newFunctionEnv_cells S.kind kinds fun ev eev s2 xx => ?_
  subst eev
  refine ⟨free.keeps xx.toInCall.keep, codeAny_func ?_⟩
  obtain ⟨t, tt, tq⟩ := body f cdv A outer s H vs Q E p c d hz hf (room.deeper _) prom
  have J : Inv (L2H.cxH CX0 P w K mg base N x (defScope st) f cdv A outer s H E p) [] (start N vs) H s2 := L2H.inv_startH S pin env long vals xx
  refine wpAny_mono (tt.run [] s2 (start N vs) H _ J tq) (fun fl s' z => ?_) fun _ _ z => z
  cases fl with
  | next =>
    obtain ⟨_, G1, J1, z⟩ := z
    exact ⟨V.non, G1, J1.os, J1.bare, J1.base, J1.hok, rfl, z⟩
  | ret u =>
    obtain ⟨v, _, G1, J1, rv, z⟩ := z
    exact ⟨v, G1, J1.os, J1.bare, J1.base, J1.hok, rv, z⟩
  | brk =>
    obtain ⟨_, _, _, z⟩ := z
    exact z.elim
  | cont =>
    obtain ⟨_, _, _, z⟩ := z
    exact z.elim
theorem cgP {X : Cx} {p0 : Addr × Obj} {c : Value} {d : Option Addr} {k : Nat} {x : Str} {ps : List Str} {sp : Addr → Value → Option Addr → Sp} {e : Expr} {es : List Expr} {t : TA} {p pos : Pos} (g : GoodP X.prog X.w X.K X.mg X.base k x ps sp) (hp : p0 ∈ X.pn) (hz : Zc c d p0.2) (hf : ∃ vs, p0.2.data = .fields vs) (hr : L2H.RoomH k X.A) (ha : PA X (e :: es) t) (hg : Gl X x := by rfl)
    (hd : (x == ("__debug__" : Str)) = false := by decide) (h1 : starEach (e :: es) X.env = (false, eval e X.env) :: starEach es X.env := by rfl) (h2 : (backTo pos (starEach es X.env)).any (·.1) = false := by rfl) :
    PE X (.Call (.Name x p) (e :: es) [] pos) (tCall (sp p0.1 c d) [] E0 t) := by
  obtain ⟨f, fd, len, run, gm, gk, gb⟩ := g
  refine ⟨fun pins s σ H Q I h => wpAny_Call_Name_kw (ld_glob I hg gm ?_ hd)⟩
  refine PySem.W.callWith_K (h₀ := X.base) I.ok.mod.kin gk (thn (ha.run pos pins s σ H _ I h) fun us s1 z => ?_) h1 h2
  obtain ⟨vs, G, J, r, q⟩ := z
  rw [List.append_nil] at q
  have hl : us.length = ps.length := (r.length).symm.trans (len _ _ _ _ _ _ _ q)
  have bind := gb s1 us J.kIn (by rw [List.append_nil]; exact hl)
  rw [List.append_nil] at bind
  obtain ⟨p1, p2, p3, p4, p5⟩ := J.pin p0 (List.mem_append_left _ hp)
  refine ⟨J.kIn, wpAny_call (codeAny_mono (run p0 c d X.A X.stack s1 G us vs Q E0 hz hf hr ⟨p1, p2, fun m => (List.mem_cons.mp (J.stkSub p0.1 m)).elim p3 p4, p5⟩ J.env0 bind r q) fun res s' z => ?_)⟩
  cases res with
  | error _ => exact False.elim z
  | ok fl =>
    cases fl with
    | ret u => exact J.after z
    | next => exact z.elim
    | brk => exact z.elim
    | cont => exact z.elim
/-- isinstance(e, c) there -/
theorem call_isP {X : Cx} {p : Addr × Obj} {D : Addr} (hp : p ∈ X.pn) (C : ExcC X.K D) (hz : Zc (.ref D) none p.2) (hf : ∃ vs, p.2.data = .fields vs) : CallR X (.builtin "isinstance") (rIsE X.K D p.1) := by
  rintro pins s σ H _ us Q I r ⟨c, cv, b, rfl, same, kit, q⟩
  obtain ⟨u, v, rfl, ru, rv⟩ := vals2 r
  obtain rfl : u = Value.ref p.1 := ru
  obtain rfl : v = cv := same _ rv
  obtain ⟨a, oc, od, oda, osl⟩ := p
  obtain ⟨vs, hv⟩ := hf
  obtain ⟨z1, z2⟩ := hz
  dsimp only at z1 z2 hv
  subst z1 z2 hv
  have J : PySem.W.InstAt s.heap a _ D none := ⟨(I.pin _ (List.mem_append_left _ hp)).1, rfl, rfl, trivial⟩
  refine PySem.W.kia_one (PySem.W.handS_kitx_exc C.hg C.hk C.hs C.hd C.ha C.hn C.ht C.hm) I.kIn J kit (fun z => nomatch z) fun tk => ?_
  exact ⟨.bl b, H, I.kept (t' := tk) fun _ _ z => z, rfl, q⟩
/-! xs.count(y), flat items -/
def rCntF (K : PySem.W.Frag) : V → List V → Hp → VK → Prop := fun x xs H Q => ∃ (a : Addr) (ys : List V) (y : V), x = .ref a ∧ xs = [y] ∧ SqL K H a ys ∧ flatV y = true ∧ ys.all flatV = true ∧ Q (.int (ys.countP fun z => eqV z y : Nat)) H
theorem countP_vals {y : V} : ∀ {ys : List V} {us : List Value}, Vals ys us → ys.all flatV = true → us.countP (eqU y) = ys.countP fun z => eqV z y
  | _, _, .nil, _ => rfl
  | z :: ys, u :: us, .cons r t, f => by
    rw [List.all_cons, Bool.and_eq_true] at f
    rw [List.countP_cons, List.countP_cons, countP_vals t f.2, eqU_of r f.1]
theorem mt_cntF {X : Cx} : MtR X "list.count" (rCntF X.K) := by
  rintro pins s σ H x xs v us Q I rx rxs ⟨a, ys, y, rfl, rfl, hs, fy, fys, q⟩
  cases rx
  obtain ⟨uy, rfl, ry⟩ := rxs.one
  obtain ⟨its, rv, ⟨⟨cls, dd, data, sl⟩, n, ho, hc, hdn, hd⟩, _⟩ := I.list hs
  simp only at hc hd
  subst hc hd
  refine call_meets PySem.F.slot_list_count ⟨_, ho, rfl⟩ PySem.F.entry_list_count (PySem.F.args_list_count_2 _ _) (SeqAt.list_countAt a its.toArray n dd sl uy (eqU y)) ⟨ho, fun u hu => mem_eqAt ry fy rv fys u (by simpa using hu), ?_⟩
  have ec : its.toArray.toList.countP (eqU y) = ys.countP fun z => eqV z y := countP_vals (y := y) rv fys
  refine ⟨.int (ys.countP fun z => eqV z y : Nat), H, I.tok _, ⟨s.toks, ?_⟩, q⟩
  show Value.int ((its.toArray.toList.countP (eqU y) : Nat) : Int) s.toks = _
  rw [ec]
/-! ### the classes of refusals -/
structure EA where
  le : Addr
  nl : Addr
  nm : Addr
  nq : Addr
  ny : Addr
  nn : Addr
def EA.at (ea : EA) : Nat → Addr
  | 0 => ea.nl
  | 1 => ea.nm
  | 2 => ea.nq
  | 3 => ea.ny
  | _ => ea.nn
def word : Nat → Str
  | 0 => "lies"
  | 1 => "marks"
  | 2 => "question"
  | 3 => "many"
  | _ => "note"
structure Tx (K : PySem.W.Frag) (mg : Str → Option Value) (ea : EA) : Prop where
  f0 : ExF K mg "NoLies" ea.nl
  f1 : ExF K mg "NoMarks" ea.nm
  f2 : ExF K mg "NoQuestion" ea.nq
  f3 : ExF K mg "NoMany" ea.ny
  f4 : ExF K mg "NoNote" ea.nn
  gL : mg "LieError" = some (.ref ea.le)
  ex : ∀ i, i < 5 → PySem.W.exmOne K (.ref (ea.at i)) (.ref ea.le) = some true
  kit : ∀ i j, i < 5 → j < 5 → PySem.W.kitOne K (.ref (ea.at i)) (.ref (ea.at j)) = some (decide (i = j))
  kiv : ∀ i, i < 5 → PySem.W.kitOne K (.ref (ea.at i)) (.type "ValueError") = some true
theorem Tx.C {ea : EA} (T : Tx K mg ea) {i : Nat} (h : i < 5) : ExcC K (ea.at i) := by
  have h5 : i = 0 ∨ i = 1 ∨ i = 2 ∨ i = 3 ∨ i = 4 := by omega
  rcases h5 with rfl | rfl | rfl | rfl | rfl
  · exact T.f0.C
  · exact T.f1.C
  · exact T.f2.C
  · exact T.f3.C
  · exact T.f4.C

/-! ### _law_word_of -/
theorem ev_isE {σ : L2.St} {H : Hp} {ta : TE} {a D C : Addr} {b : Bool} (ha : Ev ta σ H (.ref a)) (kit : PySem.W.kitOne K (.ref D) (.ref C) = some b) : Ev (tCB (rIsE K D a) (tCons ta (tCons (tC (.ref C)) tNil))) σ H (.bl b) := fun H1 e Q q =>
  ha H1 e _ fun H2 e2 => ⟨.ref C, .ref C, b, rfl, (fun _ r => r), kit, q H2 e2⟩
theorem ev_isT {σ : L2.St} {H : Hp} {ta : TE} {a D : Addr} {n : String} {b : Bool} (ha : Ev ta σ H (.ref a)) (kit : PySem.W.kitOne K (.ref D) (.type n) = some b) : Ev (tCB (rIsE K D a) (tCons ta (tCons (tC (.ty n)) tNil))) σ H (.bl b) := fun H1 e Q q =>
  ha H1 e _ fun H2 e2 => ⟨.ty n, .type n, b, rfl, (fun _ r => r), kit, q H2 e2⟩
theorem ev_cntF {σ : L2.St} {H : Hp} {ta tb : TE} {p : Addr} {ys : List V} {y : V} (ha : Ev ta σ H (.ref p)) (hb : Ev tb σ H y) (h : SqL K H p ys) (fy : flatV y = true) (fs : ys.all flatV = true) : Ev (tBM K "list" (rCntF K) ta (tCons tb tNil)) σ H (.int (ys.countP fun z => eqV z y : Nat)) := fun H1 e Q q =>
  ha H1 e _ fun H2 e2 => ⟨.inl ⟨rfl, _, ex_l (e.trans e2) h⟩, hb H2 (e.trans e2) _ fun H3 e3 => ⟨p, ys, y, rfl, rfl, ex_l ((e.trans e2).trans e3) h, fy, fs, q H3 (e2.trans e3)⟩⟩
theorem ev_idxL {σ : L2.St} {H : Hp} {ta tb : TE} {p : Addr} {ys : List V} {y z : V} {j : Nat} (ha : Ev ta σ H (.ref p)) (hb : Ev tb σ H y) (h : SqL K H p ys) (fy : flatV y = true) (fs : ys.all flatV = true) (hj : ys[j]? = some z) (hz : eqV z y = true) (hn : ∀ (m : Nat) (z' : V), m < j → ys[m]? = some z' → eqV z' y = false) :
    Ev (tBM K "list" (rIndex K) ta (tCons tb tNil)) σ H (.int (j : Int)) := fun H1 e Q q =>
  ha H1 e _ fun H2 e2 => ⟨.inl ⟨rfl, _, ex_l (e.trans e2) h⟩, hb H2 (e.trans e2) _ fun H3 e3 => ⟨p, ys, y, j, z, rfl, rfl, ex_l ((e.trans e2).trans e3) h, fy, fs, hj, hz, hn, q H3 (e2.trans e3)⟩⟩
def spWord (ea : EA) (a : Addr) (c : Value) (d : Option Addr) : Sp := fun vs H Q _ => ∃ i, i < 5 ∧ vs = [.ref a] ∧ c = .ref (ea.at i) ∧ d = none ∧ RetV (.str (word i)) H Q
theorem ok_word {ea : EA} (T : Txt K mg) (TX : Tx K mg ea) : GoodP P w K mg base 1 "_law_word_of" ["e"] (spWord ea) := by
  refine GoodP.of T.f__law_word_of sc__law_word_of (fun a c d vs H Q E h => ?_) (fun f cdv A outer s H vs Q E p c d hz hf hr h => ?_)
  · obtain ⟨i, _, rfl, _⟩ := h
    rfl
  obtain ⟨i, hi, rfl, rfl, rfl, q⟩ := h
  refine ⟨_, (pss_cons (ps_set (i := 1) sc__law_word_of.nd rfl (Or.inl rfl) (pe_lst (pa_cons (pe_callB (call_isP (p := p) List.mem_cons_self (TX.C hi) hz hf) (by rfl) T.b_isinstance (by decide +kernel) (pa_cons (pv 0) (pa_cons (pe_glob (v := .ref ea.nl) (by rfl) TX.f0.g rfl) pa_nil))) (pa_cons (pe_callB (call_isP (p := p) List.mem_cons_self (TX.C hi) hz hf) (by rfl) T.b_isinstance (by decide +kernel) (pa_cons (pv 0) (pa_cons (pe_glob (v := .ref ea.nm) (by rfl) TX.f1.g rfl) pa_nil))) (pa_cons (pe_callB (call_isP (p := p) List.mem_cons_self (TX.C hi) hz hf) (by rfl) T.b_isinstance (by decide +kernel) (pa_cons (pv 0) (pa_cons (pe_glob (v := .ref ea.nq) (by rfl) TX.f2.g rfl) pa_nil))) (pa_cons (pe_callB (call_isP (p := p) List.mem_cons_self (TX.C hi) hz hf) (by rfl) T.b_isinstance (by decide +kernel) (pa_cons (pv 0) (pa_cons (pe_glob (v := .ref ea.ny) (by rfl) TX.f3.g rfl) pa_nil))) pa_nil))))))
      (pss_cons (ps_expr (kpe_bm (K := K) rfl (pe_bm PySem.F.plainAttrs_list PySem.F.slot_list_append PySem.F.type_list_append mt_append (pv 1) (pa_cons (pe_callB (call_isP (p := p) List.mem_cons_self (TX.C hi) hz hf) (by rfl) T.b_isinstance (by decide +kernel) (pa_cons (pv 0) (pa_cons (pe_glob (v := .ref ea.nn) (by rfl) TX.f4.g rfl) pa_nil))) pa_nil))))
      (pss_cons (ps_if (PW.pt (pw_or (pt_cmpR op_ne (kpe_bm (K := K) rfl (pe_bm PySem.F.plainAttrs_list PySem.F.slot_list_count PySem.F.type_list_count mt_cntF (pv 1) (pa_cons pe_bl pa_nil))) pe_int (nomark _)) (pw_or1 (pt_not (pt_val (pe_callB (call_isP (p := p) List.mem_cons_self (TX.C hi) hz hf) (by rfl) T.b_isinstance (by decide +kernel) (pa_cons (pv 0) (pa_cons (pe_bltn (v := .ty "ValueError") (by rfl) T.b_ValueError (by decide +kernel) rfl) pa_nil)))))))) (pss_one (ps_ret pe_str)) pss_nil)
      (pss_one (ps_ret (pe_ix (kix_list (K := K) rfl) (pe_lst (pa_cons pe_str (pa_cons pe_str (pa_cons pe_str (pa_cons pe_str (pa_cons pe_str pa_nil)))))) (kpe_bm (K := K) rfl (pe_bm PySem.F.plainAttrs_list PySem.F.slot_list_index PySem.F.type_list_index mt_index (pv 1) (pa_cons pe_bl pa_nil))) (fun _ _ => rfl))))))), ?_⟩
  refine q_asgL (el_lst (ea_cons (ev_isE (ev_var rfl) (TX.kit i 0 hi (by decide))) (ea_cons (ev_isE (ev_var rfl) (TX.kit i 1 hi (by decide))) (ea_cons (ev_isE (ev_var rfl) (TX.kit i 2 hi (by decide))) (ea_cons (ev_isE (ev_var rfl) (TX.kit i 3 hi (by decide))) ea_nil)))) (by show 4 ≤ 100000; decide)) fun o H1 no e1 ho => ?_
  refine q_app ho (ev_var rfl) (ev_isE (ev_var rfl) (TX.kit i 4 hi (by decide))) (by show 4 < 100000; decide) fun H2 e2 => ?_
  have e3 : Ex H (upd H2 o (.lst ([V.bl (decide (i = 0)), .bl (decide (i = 1)), .bl (decide (i = 2)), .bl (decide (i = 3))] ++ [.bl (decide (i = 4))]))) := Ex.mut (e1.trans e2) no
  have ho3 : upd H2 o (.lst ([V.bl (decide (i = 0)), .bl (decide (i = 1)), .bl (decide (i = 2)), .bl (decide (i = 3))] ++ [.bl (decide (i = 4))])) o = some (.lst [V.bl (decide (i = 0)), .bl (decide (i = 1)), .bl (decide (i = 2)), .bl (decide (i = 3)), .bl (decide (i = 4))]) := upd_same
  generalize upd H2 o (.lst ([V.bl (decide (i = 0)), .bl (decide (i = 1)), .bl (decide (i = 2)), .bl (decide (i = 3))] ++ [.bl (decide (i = 4))])) = H3 at e3 ho3
  have h5 : i = 0 ∨ i = 1 ∨ i = 2 ∨ i = 3 ∨ i = 4 := by omega
  refine q_when (b := false) (et_or (a := false) (b := false) (et_is (et_test (ev_op (ev_cntF (ev_var rfl) ev_c (sq_of ho3) rfl rfl) ev_c rv_neI)) (by rcases h5 with rfl | rfl | rfl | rfl | rfl <;> rfl)) fun _ => et_not (a := true) (et_B (ev_isT (ev_var rfl) (TX.kiv i hi)))) (fun hb => nomatch hb) (fun _ H4 e4 => ?_)
  refine s_ret (ev_opL1 (y := .int (i : Int)) (xs := [V.str "lies", .str "marks", .str "question", .str "many", .str "note"]) (el_lst (ea_cons ev_c (ea_cons ev_c (ea_cons ev_c (ea_cons ev_c (ea_cons ev_c ea_nil))))) (by show 5 ≤ 100000; decide))
    (fun G eG => ev_idxL (z := .bl true) (ev_var rfl) ev_c (sq_of ((e4.trans eG) _ _ ho3)) rfl rfl (by rcases h5 with rfl | rfl | rfl | rfl | rfl <;> rfl) rfl (fun m z' hm hz' => ?_)) fun p G hp _ => rv_ixL (sq_of hp) (v := .str (word i)) (by rcases h5 with rfl | rfl | rfl | rfl | rfl <;> rfl)) fun H5 e5 => q H5 ((e3.trans e4).trans e5)
  have hm5 : m = 0 ∨ m = 1 ∨ m = 2 ∨ m = 3 := by omega
  rcases hm5 with rfl | rfl | rfl | rfl <;> cases hz' <;> show (decide _ == true) = false <;> rw [decide_eq_false (by omega)] <;> rfl

/-! ### asked_lies refuses -/
def badL (l : Int) : Prop := l < 0 ∨ 2 < l
def okS (L : Int) (c : Nat) : Prop := c = 120 ∨ (48 ≤ c ∧ (c : Int) ≤ 48 + L)
theorem ok_askedliesX {ea : EA} (T : Txt K mg) (TX : Tx K mg ea) : Good P w K mg base (L2.CX P w) 1 "asked_lies" ["lies"] (spBad fun vs _ C => ∃ l, vs = [.int l] ∧ badL l ∧ C = ea.nl) := by
  refine Good.ofX T.f_asked_lies sc_asked_lies (fun vs H Q E h => ?_) (fun f cdv A outer s H vs Q E hr h => ?_)
  · obtain ⟨_, ⟨l, rfl, _⟩, _⟩ := h
    rfl
  obtain ⟨_, ⟨l, rfl, hb, rfl⟩, k⟩ := h
  refine ⟨_, (pss_one (ps_if (PW.pt (pw_or (pt_cmpR op_lt (pv 0) pe_int (nomark _)) (pw_or1 (pt_cmpR op_gt (pv 0) (pe_glob (v := .int 2) (by rfl) (T.c_MOST_LIES).choose_spec ⟨_, rfl⟩) (nomark _))))) (pss_one (ps_raiseC TX.f0 (takes_of rfl rfl rfl rfl) rfl)) pss_nil)), ?_⟩
  refine s_when (b := true) (et_is (et_or (et_test (ev_op (ev_var rfl) ev_c rv_I0)) fun _ => et_test (ev_op (ev_var rfl) ev_c rv_I0)) (by
    rw [Bool.or_eq_true, decide_eq_true_eq, decide_eq_true_eq]
    exact hb)) (fun _ H1 e1 => k H1 e1) (fun hb => nomatch hb)

/-! ### what refuses -/
def badN (n : Nat) : Prop := n < 1 ∨ 8 < n
def badM (l : Int) (m : List Int) : Prop := badN m.length ∨ ∃ x ∈ m, x < 0 ∨ l + 1 < x
def Bad1 (ea : EA) (l : Int) (m : List Int) (C : Addr) : Prop := (badL l ∧ C = ea.nl) ∨ (¬ badL l ∧ badM l m ∧ C = ea.nm)
theorem lies_of {l : Int} (h : ¬ badL l) : ∃ L : Nat, l = (L : Int) ∧ L ≤ 2 := ⟨l.toNat, by unfold badL at h; omega, by unfold badL at h; omega⟩
theorem mok_of {L : Nat} {m : List Int} (h2 : L ≤ 2) (h : ¬ badM (L : Int) m) : MOk L m ∧ 1 ≤ m.length := by
  have hn : ¬ badN m.length := fun z => h (.inl z)
  unfold badN at hn
  refine ⟨⟨h2, by omega, fun x hx => ?_⟩, by omega⟩
  have hx2 : ¬ (x < 0 ∨ (L : Int) + 1 < x) := fun z => h (.inr ⟨x, hx, z⟩)
  omega
def MA (K : PySem.W.Frag) (ea : EA) (vs : List V) (H : Hp) (C : Addr) : Prop := ∃ a m l, vs = [.ref a, .int l] ∧ SqL K H a (m.map V.int) ∧ m.length ≤ 1000 ∧ Bad1 ea l m C
theorem MA.len {ea : EA} {vs : List V} {H : Hp} {C : Addr} (h : MA K ea vs H C) : vs.length = 2 := by
  obtain ⟨a, m, l, rfl, _⟩ := h
  rfl
theorem ok_askedmarksX {ea : EA} (T : Txt K mg) (TX : Tx K mg ea) : Good P w K mg base (L2.CX P w) 2 "asked_marks" ["marks", "lies"] (spBad (MA K ea)) := by
  have g_asked_lies := ok_askedlies (P := P) (w := w) (base := base) T
  have gx_asked_lies := ok_askedliesX (P := P) (w := w) (base := base) T TX
  refine Good.ofX T.f_asked_marks sc_asked_marks (fun vs H Q E h => ?_) (fun f cdv A outer s H vs Q E hr h => ?_)
  · obtain ⟨_, h, _⟩ := h
    exact h.len
  obtain ⟨C, ⟨a, m, l, rfl, ha, hz, hbad⟩, k⟩ := h
  rcases hbad with ⟨hb, rfl⟩ | ⟨hg, hb, rfl⟩
  · refine ⟨_, (pss_cons (ps_expr (cgX gx_asked_lies (takes_of rfl rfl rfl rfl) (hr.mono (by first | decide | omega)) (pa_cons (pv 1) pa_nil)))
      pss_never), ?_⟩
    exact ⟨_, rfl, _, ⟨l, rfl, hb, rfl⟩, k⟩
  obtain ⟨L, rfl, h2⟩ := lies_of hg
  by_cases hlen : badN m.length
  · refine ⟨_, (pss_cons (ps_expr (cg g_asked_lies (hr.mono (by first | decide | omega)) (pa_cons (pv 1) pa_nil)))
      (pss_cons (ps_if (PW.pt (pw_or (pt_cmpR op_lt (pe_callB (kc_len (K := K) rfl) (by rfl) T.b_len (by decide +kernel) (pa_cons (pv 0) pa_nil)) pe_int (nomark _)) (pw_or1 (pt_cmpR op_gt (pe_callB (kc_len (K := K) rfl) (by rfl) T.b_len (by decide +kernel) (pa_cons (pv 0) pa_nil)) (pe_glob (v := .int 8) (by rfl) (T.c_MOST_THINGS).choose_spec ⟨_, rfl⟩) (nomark _))))) (pss_one (ps_raiseC TX.f1 (takes_of rfl rfl rfl rfl) rfl)) pss_nil)
      pss_never)), ?_⟩
    unfold badN at hlen
    refine q_drop (ev_call (ea_cons (ev_var rfl) ea_nil) (v_askedlies h2)) fun H1 e1 => ?_
    exact q_when (b := true) (et_is (et_or (et_test (ev_op (ev_len (ev_var rfl) (ex_l e1 ha)) ev_c rv_I0)) fun _ => et_test (ev_op (ev_len (ev_var rfl) (ex_l e1 ha)) ev_c rv_I0)) (by
      rw [Bool.or_eq_true, decide_eq_true_eq, decide_eq_true_eq, len_map]
      omega)) (fun _ H2 e2 => k H2 (e1.trans e2)) (fun hb => nomatch hb)
  · obtain ⟨x0, hx0, hbx⟩ := hb.resolve_left hlen
    unfold badN at hlen
    refine ⟨_, (pss_cons (ps_expr (cg g_asked_lies (hr.mono (by first | decide | omega)) (pa_cons (pv 1) pa_nil)))
      (pss_cons (ps_if (PW.pt (pw_or (pt_cmpR op_lt (pe_callB (kc_len (K := K) rfl) (by rfl) T.b_len (by decide +kernel) (pa_cons (pv 0) pa_nil)) pe_int (nomark _)) (pw_or1 (pt_cmpR op_gt (pe_callB (kc_len (K := K) rfl) (by rfl) T.b_len (by decide +kernel) (pa_cons (pv 0) pa_nil)) (pe_glob (v := .int 8) (by rfl) (T.c_MOST_THINGS).choose_spec ⟨_, rfl⟩) (nomark _))))) (pss_one (ps_raiseC TX.f1 (takes_of rfl rfl rfl rfl) rfl)) pss_nil)
      (pss_one (ps_for (passes_of rfl) rfl (kpi_list (K := K) rfl (pv 0)) (pg_name (i := 2) sc_asked_marks.nd rfl (Or.inl rfl)) (pss_one (ps_if (PW.pt (pw_or (pt_cmpR op_lt (pv 2) pe_int (nomark _)) (pw_or1 (pt_cmpR op_gt (pv 2) (pe_op op_add (pv 1) pe_int) (nomark _))))) (pss_one (ps_raiseC TX.f1 (takes_of rfl rfl rfl rfl) rfl)) pss_nil)))))), ?_⟩
    refine q_drop (ev_call (ea_cons (ev_var rfl) ea_nil) (v_askedlies h2)) fun H1 e1 => ?_
    refine q_when (b := false) (et_or (a := false) (b := false) (et_is (et_test (ev_op (ev_len (ev_var rfl) (ex_l e1 ha)) ev_c rv_I0)) (decide_eq_false (by rw [len_map]; omega))) fun _ => et_is (et_test (ev_op (ev_len (ev_var rfl) (ex_l e1 ha)) ev_c rv_I0)) (decide_eq_false (by rw [len_map]; omega))) (fun hb => nomatch hb) (fun _ H2 e2 => ?_)
    have e2 := e1.trans e2
    refine s_forLn (ev_var rfl) (ex_l e2 ha) (fun i σ' H' => ∃ x2, σ' = [some (.ref a), some (.int (L : Int)), x2] ∧ Ex H H' ∧ ∀ x ∈ m.take i, ¬ (x < 0 ∨ (L : Int) + 1 < x)) (fun H3 e3 => ⟨_, rfl, e2.trans e3, fun x hx => nomatch hx⟩) (fun i σ' H' _ p => by
      obtain ⟨x2, _, e, _⟩ := p
      exact ex_l e ha) (fun i x σ' H' hx p => ?_) (fun σ' H' p => ?_)
    · obtain ⟨x2, rfl, e, hgd⟩ := p
      rw [List.getElem?_map] at hx
      cases hy : m[i]? with
      | none =>
        rw [hy] at hx
        cases hx
      | some y =>
        rw [hy] at hx
        obtain rfl : V.int y = x := Option.some.inj hx
        refine s_when (b := decide (y < 0) || decide ((L : Int) + 1 < y)) (et_or (et_test (ev_op (ev_var rfl) ev_c rv_I0)) fun _ => et_test (ev_op (ev_var rfl) (ev_op (ev_var rfl) ev_c rv_I0) rv_I0)) (fun hb H4 e4 => k H4 (e.trans e4)) (fun hb H4 e4 => ⟨_, rfl, e.trans e4, fun x hx => ?_⟩)
        rw [List.take_add_one, hy, Option.toList_some] at hx
        rcases List.mem_append.mp hx with z | z
        · exact hgd x z
        · rw [List.mem_singleton.mp z]
          obtain ⟨z1, z2⟩ := Bool.or_eq_false_iff.mp hb
          exact fun z => z.elim (of_decide_eq_false z1) (of_decide_eq_false z2)
    · obtain ⟨x2, rfl, e, hgd⟩ := p
      rw [len_map, List.take_of_length_le (Nat.le_refl _)] at hgd
      exact absurd hbx (hgd x0 hx0)
theorem ok_standingX {ea : EA} (T : Txt K mg) (TX : Tx K mg ea) : Good P w K mg base (L2.CX P w) 3 "standing" ["marks", "lies"] (spBad (MA K ea)) := by
  have gx_asked_marks := ok_askedmarksX (P := P) (w := w) (base := base) T TX
  refine Good.ofX T.f_standing sc_standing (fun vs H Q E h => ?_) (fun f cdv A outer s H vs Q E hr h => ?_)
  · obtain ⟨_, h, _⟩ := h
    exact h.len
  obtain ⟨C, ⟨a, m, l, rfl, hm⟩, k⟩ := h
  refine ⟨_, (pss_cons (ps_expr (cgX gx_asked_marks (takes_of rfl rfl rfl rfl) (hr.mono (by first | decide | omega)) (pa_cons (pv 0) (pa_cons (pv 1) pa_nil))))
      pss_never), ?_⟩
  exact ⟨_, rfl, _, rfl, C, ⟨a, m, l, rfl, hm⟩, k⟩
theorem ok_shownX {ea : EA} (T : Txt K mg) (TX : Tx K mg ea) : Good P w K mg base (L2.CX P w) 3 "shown" ["marks", "lies"] (spBad (MA K ea)) := by
  have gx_asked_marks := ok_askedmarksX (P := P) (w := w) (base := base) T TX
  refine Good.ofX T.f_shown sc_shown (fun vs H Q E h => ?_) (fun f cdv A outer s H vs Q E hr h => ?_)
  · obtain ⟨_, h, _⟩ := h
    exact h.len
  obtain ⟨C, ⟨a, m, l, rfl, hm⟩, k⟩ := h
  refine ⟨_, (pss_cons (ps_expr (cgX gx_asked_marks (takes_of rfl rfl rfl rfl) (hr.mono (by first | decide | omega)) (pa_cons (pv 0) (pa_cons (pv 1) pa_nil))))
      pss_never), ?_⟩
  exact ⟨_, rfl, _, rfl, C, ⟨a, m, l, rfl, hm⟩, k⟩
theorem ok_needX {ea : EA} (T : Txt K mg) (TX : Tx K mg ea) : Good P w K mg base (L2.CX P w) 3 "need" ["marks", "lies"] (spBad (MA K ea)) := by
  have gx_asked_marks := ok_askedmarksX (P := P) (w := w) (base := base) T TX
  refine Good.ofX T.f_need sc_need (fun vs H Q E h => ?_) (fun f cdv A outer s H vs Q E hr h => ?_)
  · obtain ⟨_, h, _⟩ := h
    exact h.len
  obtain ⟨C, ⟨a, m, l, rfl, hm⟩, k⟩ := h
  refine ⟨_, (pss_cons (ps_expr (cgX gx_asked_marks (takes_of rfl rfl rfl rfl) (hr.mono (by first | decide | omega)) (pa_cons (pv 0) (pa_cons (pv 1) pa_nil))))
      pss_never), ?_⟩
  exact ⟨_, rfl, _, rfl, C, ⟨a, m, l, rfl, hm⟩, k⟩
theorem ok_questionX {ea : EA} (T : Txt K mg) (TX : Tx K mg ea) : Good P w K mg base (L2.CX P w) 4 "question" ["marks", "lies"] (spBad (MA K ea)) := by
  have gx_need := ok_needX (P := P) (w := w) (base := base) T TX
  refine Good.ofX T.f_question sc_question (fun vs H Q E h => ?_) (fun f cdv A outer s H vs Q E hr h => ?_)
  · obtain ⟨_, h, _⟩ := h
    exact h.len
  obtain ⟨C, ⟨a, m, l, rfl, hm⟩, k⟩ := h
  refine ⟨_, (pss_cons (ps_set (i := 2) sc_question.nd rfl (Or.inl rfl) (cgX gx_need (takes_of rfl rfl rfl rfl) (hr.mono (by first | decide | omega)) (pa_cons (pv 0) (pa_cons (pv 1) pa_nil))))
      pss_never), ?_⟩
  exact ⟨_, rfl, _, rfl, C, ⟨a, m, l, rfl, hm⟩, k⟩
theorem ok_weightX {ea : EA} (T : Txt K mg) (TX : Tx K mg ea) : Good P w K mg base (L2.CX P w) 3 "weight" ["marks", "lies", "many"] (spBad fun vs H C => ∃ a m l y, vs = [.ref a, .int l, .int y] ∧ SqL K H a (m.map V.int) ∧ m.length ≤ 1000 ∧ (Bad1 ea l m C ∨ (¬ badL l ∧ ¬ badM l m ∧ (y < 0 ∨ 100 < y) ∧ C = ea.ny))) := by
  have g_asked_marks := ok_askedmarks (P := P) (w := w) (base := base) T
  have gx_asked_marks := ok_askedmarksX (P := P) (w := w) (base := base) T TX
  refine Good.ofX T.f_weight sc_weight (fun vs H Q E h => ?_) (fun f cdv A outer s H vs Q E hr h => ?_)
  · obtain ⟨_, ⟨a, m, l, y, rfl, _⟩, _⟩ := h
    rfl
  obtain ⟨C, ⟨a, m, l, y, rfl, ha, hz, hb⟩, k⟩ := h
  rcases hb with hb | ⟨hg, hgm, hy, rfl⟩
  · refine ⟨_, (pss_cons (ps_expr (cgX gx_asked_marks (takes_of rfl rfl rfl rfl) (hr.mono (by first | decide | omega)) (pa_cons (pv 0) (pa_cons (pv 1) pa_nil))))
      pss_never), ?_⟩
    exact ⟨_, rfl, _, rfl, C, ⟨a, m, l, rfl, ha, hz, hb⟩, k⟩
  · obtain ⟨L, rfl, h2⟩ := lies_of hg
    obtain ⟨hok, h1⟩ := mok_of h2 hgm
    refine ⟨_, (pss_cons (ps_expr (cg g_asked_marks (hr.mono (by first | decide | omega)) (pa_cons (pv 0) (pa_cons (pv 1) pa_nil))))
      (pss_cons (ps_if (PW.pt (pw_or (pt_cmpR op_lt (pv 2) pe_int (nomark _)) (pw_or1 (pt_cmpR op_gt (pv 2) (pe_glob (v := .int 100) (by rfl) (T.c_MOST).choose_spec ⟨_, rfl⟩) (nomark _))))) (pss_one (ps_raiseC TX.f3 (takes_of rfl rfl rfl rfl) rfl)) pss_nil)
      pss_never)), ?_⟩
    refine q_drop (ev_call (ea_cons (ev_var rfl) (ea_cons (ev_var rfl) ea_nil)) (v_askedmarks ha hok h1)) fun H1 e1 => ?_
    exact q_when (b := true) (et_is (et_or (et_test (ev_op (ev_var rfl) ev_c rv_I0)) fun _ => et_test (ev_op (ev_var rfl) ev_c rv_I0)) (by
      rw [Bool.or_eq_true, decide_eq_true_eq, decide_eq_true_eq]
      exact hy)) (fun _ H2 e2 => k H2 (e1.trans e2)) (fun hb => nomatch hb)
theorem ok_begunX {ea : EA} (T : Txt K mg) (TX : Tx K mg ea) : Good P w K mg base (L2.CX P w) 1 "begun" ["things"] (spBad fun vs _ C => ∃ n : Nat, vs = [.int (n : Int)] ∧ badN n ∧ C = ea.nm) := by
  refine Good.ofX T.f_begun sc_begun (fun vs H Q E h => ?_) (fun f cdv A outer s H vs Q E hr h => ?_)
  · obtain ⟨_, ⟨n, rfl, _⟩, _⟩ := h
    rfl
  obtain ⟨C, ⟨n, rfl, hb, rfl⟩, k⟩ := h
  unfold badN at hb
  refine ⟨_, (pss_cons (ps_if (PW.pt (pw_or (pt_cmpR op_lt (pv 0) pe_int (nomark _)) (pw_or1 (pt_cmpR op_gt (pv 0) (pe_glob (v := .int 8) (by rfl) (T.c_MOST_THINGS).choose_spec ⟨_, rfl⟩) (nomark _))))) (pss_one (ps_raiseC TX.f1 (takes_of rfl rfl rfl rfl) rfl)) pss_nil)
      pss_never), ?_⟩
  exact q_when (b := true) (et_is (et_or (et_test (ev_op (ev_var rfl) ev_c rv_I0)) fun _ => et_test (ev_op (ev_var rfl) ev_c rv_I0)) (by
    rw [Bool.or_eq_true, decide_eq_true_eq, decide_eq_true_eq]
    omega)) (fun _ H2 e2 => k H2 e2) (fun hb => nomatch hb)
theorem rise_not {n : Int} : ∀ {qs : List Int} {i : Nat} {b x : Int}, ¬ Rise b (qs.drop i) n → qs[i]? = some x → b < x → x < n → ¬ Rise x (qs.drop (i + 1)) n
  | [], i, b, x, _, h, _, _ => by simp at h
  | y :: r, 0, b, x, h, e, h1, h2 => by
    have e2 : y = x := Option.some.inj e
    subst e2
    exact fun z => h ⟨h1, h2, z⟩
  | y :: r, i + 1, b, x, h, e, h1, h2 => rise_not (qs := r) (i := i) h e h1 h2
theorem ok_askedqX {ea : EA} (T : Txt K mg) (TX : Tx K mg ea) : Good P w K mg base (L2.CX P w) 1 "asked_question" ["things", "question"] (spBad fun vs H C => ∃ b qs n, vs = [.int n, .ref b] ∧ SqL K H b (qs.map V.int) ∧ ¬ Rise (-1) qs n ∧ C = ea.nq) := by
  refine Good.ofX T.f_asked_question sc_asked_question (fun vs H Q E h => ?_) (fun f cdv A outer s H vs Q E hr h => ?_)
  · obtain ⟨_, ⟨b, qs, n, rfl, _⟩, _⟩ := h
    rfl
  obtain ⟨C, ⟨b, qs, n, rfl, hb, hR, rfl⟩, k⟩ := h
  refine ⟨_, (pss_cons (ps_set (i := 2) sc_asked_question.nd rfl (Or.inl rfl) (pe_un un_neg pe_int))
      (pss_one (ps_for (passes_of rfl) rfl (kpi_list (K := K) rfl (pv 1)) (pg_name (i := 3) sc_asked_question.nd rfl (Or.inl rfl)) (pss_cons (ps_if (PW.pt (pw_or (pt_cmpR op_le (pv 3) (pv 2) (nomark _)) (pw_or1 (pt_cmpR op_ge (pv 3) (pv 0) (nomark _))))) (pss_one (ps_raiseC TX.f2 (takes_of rfl rfl rfl rfl) rfl)) pss_nil)
      (pss_one (ps_set (i := 2) sc_asked_question.nd rfl (Or.inl rfl) (pv 3))))))), ?_⟩
  refine q_asg (v := .int (-1)) (ev_un ev_c ru_neg) fun H1 e1 => ?_
  refine s_forLn (ev_var rfl) (ex_l e1 hb) (fun i σ' H' => ∃ bf x3, σ' = [some (.int n), some (.ref b), some (.int bf), x3] ∧ Ex H H' ∧ ¬ Rise bf (qs.drop i) n) (fun H3 e3 => ⟨-1, _, rfl, e1.trans e3, hR⟩) (fun i σ' H' _ p => by
    obtain ⟨_, _, _, e, _⟩ := p
    exact ex_l e hb) (fun i x σ' H' hx p => ?_) (fun σ' H' p => ?_)
  · obtain ⟨bf, x3, rfl, e, hr'⟩ := p
    rw [List.getElem?_map] at hx
    cases hq : qs[i]? with
    | none =>
      rw [hq] at hx
      cases hx
    | some y =>
      rw [hq] at hx
      obtain rfl : V.int y = x := Option.some.inj hx
      refine q_when (b := decide (y ≤ bf) || decide (n ≤ y)) (et_or (et_test (ev_op (ev_var rfl) (ev_var rfl) rv_I0)) fun _ => et_test (ev_op (ev_var rfl) (ev_var rfl) rv_I0)) (fun hb H4 e4 => k H4 (e.trans e4)) (fun hb H4 e4 => ?_)
      obtain ⟨z1, z2⟩ := Bool.or_eq_false_iff.mp hb
      have z1 := of_decide_eq_false z1
      have z2 := of_decide_eq_false z2
      exact s_asg (ev_var rfl) fun H5 e5 => ⟨y, _, rfl, (e.trans e4).trans e5, rise_not hr' hq (by omega) (by omega)⟩
  · obtain ⟨bf, x3, rfl, e, hr'⟩ := p
    rw [len_map, List.drop_of_length_le (Nat.le_refl _)] at hr'
    exact absurd trivial hr'
def QA (K : PySem.W.Frag) (ea : EA) (a : Addr) (l : Int) (b : Addr) (H : Hp) (C : Addr) : Prop := ∃ m q, SqL K H a (m.map V.int) ∧ m.length ≤ 1000 ∧ SqL K H b (q.map V.int) ∧ (Bad1 ea l m C ∨ (¬ badL l ∧ ¬ badM l m ∧ ¬ Rise (-1) q (m.length : Int) ∧ C = ea.nq))
theorem ok_afterX {ea : EA} (T : Txt K mg) (TX : Tx K mg ea) : Good P w K mg base (L2.CX P w) 3 "after" ["marks", "lies", "asked", "yes"] (spBad fun vs H C => ∃ a l b y, vs = [.ref a, .int l, .ref b, .bl y] ∧ QA K ea a l b H C) := by
  have g_asked_marks := ok_askedmarks (P := P) (w := w) (base := base) T
  have gx_asked_marks := ok_askedmarksX (P := P) (w := w) (base := base) T TX
  have gx_asked_question := ok_askedqX (P := P) (w := w) (base := base) T TX
  refine Good.ofX T.f_after sc_after (fun vs H Q E h => ?_) (fun f cdv A outer s H vs Q E hr h => ?_)
  · obtain ⟨_, ⟨a, l, b, y, rfl, _⟩, _⟩ := h
    rfl
  obtain ⟨C, ⟨a, l, b, y, rfl, m, q, ha, hz, hb, h⟩, k⟩ := h
  rcases h with h | ⟨hg, hgm, hR, rfl⟩
  · refine ⟨_, (pss_cons (ps_expr (cgX gx_asked_marks (takes_of rfl rfl rfl rfl) (hr.mono (by first | decide | omega)) (pa_cons (pv 0) (pa_cons (pv 1) pa_nil))))
      pss_never), ?_⟩
    exact ⟨_, rfl, _, rfl, C, ⟨a, m, l, rfl, ha, hz, h⟩, k⟩
  · obtain ⟨L, rfl, h2⟩ := lies_of hg
    obtain ⟨hok, h1⟩ := mok_of h2 hgm
    refine ⟨_, (pss_cons (ps_expr (cg g_asked_marks (hr.mono (by first | decide | omega)) (pa_cons (pv 0) (pa_cons (pv 1) pa_nil))))
      (pss_cons (ps_expr (cgX gx_asked_question (takes_of rfl rfl rfl rfl) (hr.mono (by first | decide | omega)) (pa_cons (pe_callB (kc_len (K := K) rfl) (by rfl) T.b_len (by decide +kernel) (pa_cons (pv 0) pa_nil)) (pa_cons (pv 2) pa_nil))))
      pss_never)), ?_⟩
    refine q_drop (ev_call (ea_cons (ev_var rfl) (ea_cons (ev_var rfl) ea_nil)) (v_askedmarks ha hok h1)) fun H1 e1 => ?_
    refine (ev_is (ev_len (ev_var rfl) (ex_l e1 ha)) (by rw [len_map]) : Ev _ _ H1 (.int (m.length : Int))) H1 (Ex.refl H1) _ fun H2 e2 => ?_
    exact ⟨_, rfl, _, ⟨b, q, _, rfl, ex_l (e1.trans e2) hb, hR, rfl⟩, fun H' e' => k H' ((e1.trans e2).trans e')⟩
theorem ok_answerX {ea : EA} (T : Txt K mg) (TX : Tx K mg ea) : Good P w K mg base (L2.CX P w) 60 "answer" ["marks", "lies", "asked"] (spBad fun vs H C => ∃ a l b, vs = [.ref a, .int l, .ref b] ∧ QA K ea a l b H C) := by
  have g_need := ok_need (P := P) (w := w) (base := base) T
  have gx_after := ok_afterX (P := P) (w := w) (base := base) T TX
  refine Good.ofX T.f_answer sc_answer (fun vs H Q E h => ?_) (fun f cdv A outer s H vs Q E hr h => ?_)
  · obtain ⟨_, ⟨a, l, b, rfl, _⟩, _⟩ := h
    rfl
  obtain ⟨C, ⟨a, l, b, rfl, h⟩, k⟩ := h
  refine ⟨_, (pss_one (ps_ret (pe_cmpR op_ge (cg g_need (hr.mono (by first | decide | omega)) (pa_cons (cgX gx_after (takes_of rfl rfl rfl rfl) (hr.mono (by first | decide | omega)) (pa_cons (pv 0) (pa_cons (pv 1) (pa_cons (pv 2) (pa_cons pe_bl pa_nil))))) (pa_cons (pv 1) pa_nil))) (cg g_need (hr.mono (by first | decide | omega)) (pa_cons (cgX gx_after (takes_of rfl rfl rfl rfl) (hr.mono (by first | decide | omega)) (pa_cons (pv 0) (pa_cons (pv 1) (pa_cons (pv 2) (pa_cons pe_bl pa_nil))))) (pa_cons (pv 1) pa_nil))) (nomark _)))), ?_⟩
  exact ⟨_, rfl, _, rfl, _, rfl, C, ⟨a, l, b, true, rfl, h⟩, k⟩
theorem ok_markedX {ea : EA} (T : Txt K mg) (TX : Tx K mg ea) : Good P w K mg base (L2.CX P w) 2 "marked" ["things", "lies", "talk"] (spBad fun vs H C => ∃ (n : Nat) (l : Int) (tk : Addr) (ts : List Addr) (t : List (List Int × Bool)), vs = [.int (n : Int), .int l, .ref tk] ∧ SqL K H tk (ts.map V.ref) ∧ TalkAt K H ts t ∧
    ((badL l ∧ C = ea.nl) ∨ (¬ badL l ∧ badN n ∧ C = ea.nm) ∨ (¬ badL l ∧ ¬ badN n ∧ (¬ ∀ p ∈ t, Rise (-1) p.1 (n : Int)) ∧ C = ea.nq))) := by
  have g_asked_lies := ok_askedlies (P := P) (w := w) (base := base) T
  have gx_asked_lies := ok_askedliesX (P := P) (w := w) (base := base) T TX
  have g_begun := ok_begun (P := P) (w := w) (base := base) T
  have gx_begun := ok_begunX (P := P) (w := w) (base := base) T TX
  have g_behind := ok_behind (P := P) (w := w) (base := base) T
  have gx_asked_question := joinX (ok_askedq (P := P) (w := w) (base := base) T) (ok_askedqX (P := P) (w := w) (base := base) T TX)
  refine Good.ofX T.f_marked sc_marked (fun vs H Q E h => ?_) (fun f cdv A outer s H vs Q E hr h => ?_)
  · obtain ⟨_, ⟨n, l, tk, ts, t, rfl, _⟩, _⟩ := h
    rfl
  obtain ⟨C, ⟨n, l, tk, ts, t, rfl, hT, hl, h⟩, k⟩ := h
  rcases h with ⟨hb, rfl⟩ | ⟨hg, hb, rfl⟩ | ⟨hg, hn, hR, rfl⟩
  · refine ⟨_, (pss_cons (ps_expr (cgX gx_asked_lies (takes_of rfl rfl rfl rfl) (hr.mono (by first | decide | omega)) (pa_cons (pv 1) pa_nil)))
      pss_never), ?_⟩
    exact ⟨_, rfl, _, ⟨l, rfl, hb, rfl⟩, k⟩
  · obtain ⟨L, rfl, h2⟩ := lies_of hg
    refine ⟨_, (pss_cons (ps_expr (cg g_asked_lies (hr.mono (by first | decide | omega)) (pa_cons (pv 1) pa_nil)))
      (pss_cons (ps_set (i := 3) sc_marked.nd rfl (Or.inl rfl) (cgX gx_begun (takes_of rfl rfl rfl rfl) (hr.mono (by first | decide | omega)) (pa_cons (pv 0) pa_nil)))
      pss_never)), ?_⟩
    refine q_drop (ev_call (ea_cons (ev_var rfl) ea_nil) (v_askedlies h2)) fun H1 e1 => ?_
    exact ⟨_, rfl, _, ⟨n, rfl, hb, rfl⟩, fun H' e' => k H' (e1.trans e')⟩
  · obtain ⟨L, rfl, h2⟩ := lies_of hg
    unfold badN at hn
    refine ⟨_, (pss_cons (ps_expr (cg g_asked_lies (hr.mono (by first | decide | omega)) (pa_cons (pv 1) pa_nil)))
      (pss_cons (ps_set (i := 3) sc_marked.nd rfl (Or.inl rfl) (cg g_begun (hr.mono (by first | decide | omega)) (pa_cons (pv 0) pa_nil)))
      (pss_cons (ps_for (passes_of rfl) rfl (kpi_list (K := K) rfl (pv 2)) (kpg_tup (K := K) (n := 2) rfl (by rfl) (pgs_cons (pg_name (i := 4) sc_marked.nd rfl (Or.inl rfl)) (pgs_cons (pg_name (i := 5) sc_marked.nd rfl (Or.inl rfl)) pgs_nil))) (pss_cons (ps_expr (cgX gx_asked_question (takes_of rfl rfl rfl rfl) (hr.mono (by first | decide | omega)) (pa_cons (pv 0) (pa_cons (pv 4) pa_nil))))
      (pss_one (ps_set (i := 3) sc_marked.nd rfl (Or.inl rfl) (cg g_behind (hr.mono (by first | decide | omega)) (pa_cons (pv 3) (pa_cons (pv 1) (pa_cons (pv 4) (pa_cons (pv 5) pa_nil)))))))))
      (pss_one (ps_ret (pv 3)))))), ?_⟩
    refine q_drop (ev_call (ea_cons (ev_var rfl) ea_nil) (v_askedlies h2)) fun H1 e1 => ?_
    refine q_asgL (el_call (ea_cons (ev_var rfl) ea_nil) (l_begun (by omega) (by omega))) fun o H2 no e2 ho => ?_
    have no := fresh_back e1 no
    have e2 := e1.trans e2
    refine q_forL (ev_var rfl) (ex_l e2 hT) (fun i σ' H' => ∃ (o : Addr) (x4 x5 : Option V) (m : List Int), σ' = [some (.int (n : Int)), some (.int (L : Int)), some (.ref tk), some (.ref o), x4, x5] ∧ Ex H H' ∧ H' o = some (.lst (m.map V.int)) ∧ m.length ≤ 8 ∧ ∀ p ∈ t.take i, Rise (-1) p.1 (n : Int)) (fun H3 e3 => ⟨o, _, _, _, rfl, e2.trans e3, e3 _ _ ho, by rw [List.length_replicate]; omega, fun p hp => nomatch hp⟩) (fun i σ' H' _ p => by
      obtain ⟨_, _, _, _, _, e, _⟩ := p
      exact ex_l e hT) (fun i x σ' H' hx p => ?_) (fun σ' H' p => ?_)
    · obtain ⟨o, x4, x5, m, rfl, e, ho, hm8, hgd⟩ := p
      rw [List.getElem?_map] at hx
      cases ht : ts[i]? with
      | none =>
        rw [ht] at hx
        cases hx
      | some u =>
        rw [ht] at hx
        obtain rfl : V.ref u = x := Option.some.inj hx
        obtain ⟨q, y, b, hgq, hb1, hb2⟩ := (hl.ex e).get ht
        refine ⟨u, _, rfl, hb1, rfl, _, _, rfl, _, [], rfl, rfl, ?_⟩
        by_cases hRq : Rise (-1) q (n : Int)
        · refine ⟨_, rfl, _, rfl, .inl (v_askedq hb2 hRq H' (Ex.refl H') _ (fun H3 e3 => ?_) _)⟩
          refine s_asgL (el_call (ea_cons (ev_var rfl) (ea_cons (ev_var rfl) (ea_cons (ev_var rfl) (ea_cons (ev_var rfl) ea_nil)))) (l_behind (sq_of (e3 _ _ ho)) (ex_l e3 hb2) (by omega))) fun p H4 np e4 hp => ?_
          refine ⟨p, _, _, _, rfl, (e.trans e3).trans e4, hp, by unfold beh; rw [len_map, List.length_range]; omega, fun p' hp' => ?_⟩
          rw [List.take_add_one, hgq, Option.toList_some] at hp'
          rcases List.mem_append.mp hp' with z | z
          · exact hgd p' z
          · rw [List.mem_singleton.mp z]
            exact hRq
        · exact ⟨_, rfl, _, rfl, .inr ⟨_, ⟨b, q, _, rfl, hb2, hRq, rfl⟩, fun H3 e3 => k H3 (e.trans e3)⟩⟩
    · obtain ⟨o, x4, x5, m, rfl, e, ho, hm8, hgd⟩ := p
      rw [List.take_of_length_le (by rw [len_map, hl.len]; exact Nat.le_refl _)] at hgd
      exact absurd hgd hR

/-! ### what each def answers: none, or the class of the refusal -/
open Classical in
noncomputable def o1 (l : Int) (m : List Int) : Option Nat := if badL l then some 0 else if badM l m then some 1 else none
open Classical in
noncomputable def o4 (l : Int) (m : List Int) (y : Int) : Option Nat := if badL l then some 0 else if badM l m then some 1 else if y < 0 ∨ 100 < y then some 3 else none
open Classical in
noncomputable def o5 (l : Int) (m q : List Int) : Option Nat := if badL l then some 0 else if badM l m then some 1 else if Rise (-1) q (m.length : Int) then none else some 2
open Classical in
noncomputable def o7 (l : Int) (m q : List Int) : Option Nat := if badL l then some 0 else if badN m.length then some 1 else if Rise (-1) q (m.length : Int) then none else some 2
open Classical in
noncomputable def o8 (m : List Int) : Option Nat := if badN m.length then some 1 else none
noncomputable def outc (w : Nat) (l : Int) (m q : List Int) (y : Int) : Option Nat := if w < 4 then o1 l m else if w = 4 then o4 l m y else if w < 7 then o5 l m q else if w = 7 then o7 l m q else o8 m
section
variable {ea : EA} {H : Hp} {Q : VK} {E : XK} {a b : Addr} {m q : List Int} {l y : Int} {spG : Sp}
theorem call_ma (ha : SqL K H a (m.map V.int)) (hz : m.length ≤ 1000) (hG : ∀ L : Nat, l = (L : Int) → MOk L m → 1 ≤ m.length → (∀ v H2, Ex H H2 → Q v H2) → spG [.ref a, .int l] H Q E)
    (kn : o1 l m = none → ∀ v H2, Ex H H2 → Q v H2) (ks : ∀ i, o1 l m = some i → ∀ H2, Ex H H2 → E (.ref (ea.at i)) none H2) : spG [.ref a, .int l] H Q E ∨ spBad (MA K ea) [.ref a, .int l] H Q E := by
  unfold o1 at kn ks
  by_cases hb : badL l
  · rw [if_pos hb] at ks
    exact .inr ⟨ea.nl, ⟨a, m, l, rfl, ha, hz, .inl ⟨hb, rfl⟩⟩, ks 0 rfl⟩
  rw [if_neg hb] at ks kn
  by_cases hm : badM l m
  · rw [if_pos hm] at ks
    exact .inr ⟨ea.nm, ⟨a, m, l, rfl, ha, hz, .inr ⟨hb, hm, rfl⟩⟩, ks 1 rfl⟩
  rw [if_neg hm] at kn
  obtain ⟨L, rfl, h2⟩ := lies_of hb
  obtain ⟨hok, h1⟩ := mok_of h2 hm
  exact .inl (hG L rfl hok h1 (kn rfl))
theorem call_weight (ha : SqL K H a (m.map V.int)) (hz : m.length ≤ 1000)
    (kn : o4 l m y = none → ∀ v H2, Ex H H2 → Q v H2) (ks : ∀ i, o4 l m y = some i → ∀ H2, Ex H H2 → E (.ref (ea.at i)) none H2) :
    spWeight K [.ref a, .int l, .int y] H Q E ∨ spBad (fun vs H C => ∃ a m l y, vs = [.ref a, .int l, .int y] ∧ SqL K H a (m.map V.int) ∧ m.length ≤ 1000 ∧ (Bad1 ea l m C ∨ (¬ badL l ∧ ¬ badM l m ∧ (y < 0 ∨ 100 < y) ∧ C = ea.ny))) [.ref a, .int l, .int y] H Q E := by
  unfold o4 at kn ks
  by_cases hb : badL l
  · rw [if_pos hb] at ks
    exact .inr ⟨ea.nl, ⟨a, m, l, y, rfl, ha, hz, .inl (.inl ⟨hb, rfl⟩)⟩, ks 0 rfl⟩
  rw [if_neg hb] at ks kn
  by_cases hm : badM l m
  · rw [if_pos hm] at ks
    exact .inr ⟨ea.nm, ⟨a, m, l, y, rfl, ha, hz, .inl (.inr ⟨hb, hm, rfl⟩)⟩, ks 1 rfl⟩
  rw [if_neg hm] at kn ks
  by_cases hy : y < 0 ∨ 100 < y
  · rw [if_pos hy] at ks
    exact .inr ⟨ea.ny, ⟨a, m, l, y, rfl, ha, hz, .inr ⟨hb, hm, hy, rfl⟩⟩, ks 3 rfl⟩
  rw [if_neg hy] at kn
  obtain ⟨L, rfl, h2⟩ := lies_of hb
  obtain ⟨hok, h1⟩ := mok_of h2 hm
  obtain ⟨n, rfl⟩ : ∃ n : Nat, y = (n : Int) := ⟨y.toNat, by omega⟩
  exact .inl (v_weight ha hok h1 (by omega) H (Ex.refl H) Q (fun H2 e2 => kn rfl _ H2 e2) E)
theorem call_after (ha : SqL K H a (m.map V.int)) (hz : m.length ≤ 1000) (hb' : SqL K H b (q.map V.int))
    (kn : o5 l m q = none → ∀ v H2, Ex H H2 → Q v H2) (ks : ∀ i, o5 l m q = some i → ∀ H2, Ex H H2 → E (.ref (ea.at i)) none H2) :
    spAfter K [.ref a, .int l, .ref b, .bl true] H Q E ∨ spBad (fun vs H C => ∃ a l b y, vs = [.ref a, .int l, .ref b, .bl y] ∧ QA K ea a l b H C) [.ref a, .int l, .ref b, .bl true] H Q E := by
  unfold o5 at kn ks
  by_cases hb : badL l
  · rw [if_pos hb] at ks
    exact .inr ⟨ea.nl, ⟨a, l, b, true, rfl, m, q, ha, hz, hb', .inl (.inl ⟨hb, rfl⟩)⟩, ks 0 rfl⟩
  rw [if_neg hb] at ks kn
  by_cases hm : badM l m
  · rw [if_pos hm] at ks
    exact .inr ⟨ea.nm, ⟨a, l, b, true, rfl, m, q, ha, hz, hb', .inl (.inr ⟨hb, hm, rfl⟩)⟩, ks 1 rfl⟩
  rw [if_neg hm] at kn ks
  by_cases hR : Rise (-1) q (m.length : Int)
  · rw [if_pos hR] at kn
    obtain ⟨L, rfl, h2⟩ := lies_of hb
    obtain ⟨hok, h1⟩ := mok_of h2 hm
    exact .inl (l_after ha hb' hok h1 hR H (Ex.refl H) Q (fun p H2 _ e2 _ => kn rfl _ H2 e2) E)
  · rw [if_neg hR] at ks
    exact .inr ⟨ea.nq, ⟨a, l, b, true, rfl, m, q, ha, hz, hb', .inr ⟨hb, hm, hR, rfl⟩⟩, ks 2 rfl⟩
theorem call_answer (ha : SqL K H a (m.map V.int)) (hz : m.length ≤ 1000) (hb' : SqL K H b (q.map V.int))
    (kn : o5 l m q = none → ∀ v H2, Ex H H2 → Q v H2) (ks : ∀ i, o5 l m q = some i → ∀ H2, Ex H H2 → E (.ref (ea.at i)) none H2) :
    spAnswer K [.ref a, .int l, .ref b] H Q E ∨ spBad (fun vs H C => ∃ a l b, vs = [.ref a, .int l, .ref b] ∧ QA K ea a l b H C) [.ref a, .int l, .ref b] H Q E := by
  unfold o5 at kn ks
  by_cases hb : badL l
  · rw [if_pos hb] at ks
    exact .inr ⟨ea.nl, ⟨a, l, b, rfl, m, q, ha, hz, hb', .inl (.inl ⟨hb, rfl⟩)⟩, ks 0 rfl⟩
  rw [if_neg hb] at ks kn
  by_cases hm : badM l m
  · rw [if_pos hm] at ks
    exact .inr ⟨ea.nm, ⟨a, l, b, rfl, m, q, ha, hz, hb', .inl (.inr ⟨hb, hm, rfl⟩)⟩, ks 1 rfl⟩
  rw [if_neg hm] at kn ks
  by_cases hR : Rise (-1) q (m.length : Int)
  · rw [if_pos hR] at kn
    obtain ⟨L, rfl, h2⟩ := lies_of hb
    obtain ⟨hok, h1⟩ := mok_of h2 hm
    exact .inl (v_answer ha hb' hok h1 hR H (Ex.refl H) Q (fun H2 e2 => kn rfl _ H2 e2) E)
  · rw [if_neg hR] at ks
    exact .inr ⟨ea.nq, ⟨a, l, b, rfl, m, q, ha, hz, hb', .inr ⟨hb, hm, hR, rfl⟩⟩, ks 2 rfl⟩
theorem call_marked {tk : Addr} {ts : List Addr} {n : Nat} (hn : n = m.length) (hT : SqL K H tk (ts.map V.ref)) (ht : TalkAt K H ts [([], true), (q, false), ([0], true)])
    (kn : o7 l m q = none → ∀ v H2, Ex H H2 → Q v H2) (ks : ∀ i, o7 l m q = some i → ∀ H2, Ex H H2 → E (.ref (ea.at i)) none H2) :
    spMarked K [.int (n : Int), .int l, .ref tk] H Q E ∨ spBad (fun vs H C => ∃ (n : Nat) (l : Int) (tk : Addr) (ts : List Addr) (t : List (List Int × Bool)), vs = [.int (n : Int), .int l, .ref tk] ∧ SqL K H tk (ts.map V.ref) ∧ TalkAt K H ts t ∧
      ((badL l ∧ C = ea.nl) ∨ (¬ badL l ∧ badN n ∧ C = ea.nm) ∨ (¬ badL l ∧ ¬ badN n ∧ (¬ ∀ p ∈ t, Rise (-1) p.1 (n : Int)) ∧ C = ea.nq))) [.int (n : Int), .int l, .ref tk] H Q E := by
  subst hn
  unfold o7 at kn ks
  by_cases hb : badL l
  · rw [if_pos hb] at ks
    exact .inr ⟨ea.nl, ⟨_, l, tk, ts, _, rfl, hT, ht, .inl ⟨hb, rfl⟩⟩, ks 0 rfl⟩
  rw [if_neg hb] at ks kn
  by_cases hm : badN m.length
  · rw [if_pos hm] at ks
    exact .inr ⟨ea.nm, ⟨_, l, tk, ts, _, rfl, hT, ht, .inr (.inl ⟨hb, hm, rfl⟩)⟩, ks 1 rfl⟩
  rw [if_neg hm] at kn ks
  by_cases hR : Rise (-1) q (m.length : Int)
  · rw [if_pos hR] at kn
    obtain ⟨L, rfl, h2⟩ := lies_of hb
    unfold badN at hm
    refine .inl (l_marked hT ht (fun p hp => ?_) h2 (by omega) (by omega) H (Ex.refl H) Q (fun p H2 _ e2 _ => kn rfl _ H2 e2) E)
    simp only [List.mem_cons, List.not_mem_nil, or_false] at hp
    rcases hp with rfl | rfl | rfl
    · exact trivial
    · exact hR
    · exact ⟨by decide, by show (0 : Int) < _; omega, trivial⟩
  · rw [if_neg hR] at ks
    exact .inr ⟨ea.nq, ⟨_, l, tk, ts, _, rfl, hT, ht, .inr (.inr ⟨hb, hm, fun z => hR (z (q, false) (by simp)), rfl⟩)⟩, ks 2 rfl⟩
theorem call_begun {n : Nat} (hn : n = m.length) (kn : o8 m = none → ∀ v H2, Ex H H2 → Q v H2) (ks : ∀ i, o8 m = some i → ∀ H2, Ex H H2 → E (.ref (ea.at i)) none H2) :
    spBegun K [.int (n : Int)] H Q E ∨ spBad (fun vs _ C => ∃ n : Nat, vs = [.int (n : Int)] ∧ badN n ∧ C = ea.nm) [.int (n : Int)] H Q E := by
  subst hn
  unfold o8 at kn ks
  by_cases hm : badN m.length
  · rw [if_pos hm] at ks
    exact .inr ⟨ea.nm, ⟨_, rfl, hm, rfl⟩, ks 1 rfl⟩
  · rw [if_neg hm] at kn
    unfold badN at hm
    exact .inl (l_begun (by omega) (by omega) H (Ex.refl H) Q (fun p H2 _ e2 _ => kn rfl _ H2 e2) E)
/-- the talk that is tried -/
theorem talk_made {σ : L2.St} (h3 : σ[3]? = some (some (.ref b))) (hb : SqL K H b (q.map V.int)) (k : ∀ tk ts H', Ex H H' → H' tk = some (.lst (ts.map V.ref)) → TalkAt K H' ts [([], true), (q, false), ([0], true)] → Q (.ref tk) H') :
    tLst (tCons (tTup (tCons (tLst tNil) (tCons (tC (.bl true)) tNil))) (tCons (tTup (tCons (tVar 3) (tCons (tC (.bl false)) tNil))) (tCons (tTup (tCons (tLst (tCons (tC (.int 0)) tNil)) (tCons (tC (.bl true)) tNil))) tNil))) σ H Q := by
  refine ⟨by show 0 ≤ sizeLine; decide, fun p1 n1 => ⟨by show 2 ≤ sizeLine; decide, fun t1 m1 => ⟨_, h3, by show 2 ≤ sizeLine; decide, fun t2 m2 => ⟨by show 1 ≤ sizeLine; decide, fun p3 n3 => ⟨by show 2 ≤ sizeLine; decide, fun t3 m3 => ⟨by show 3 ≤ sizeLine; decide, fun tk nk => ?_⟩⟩⟩⟩⟩⟩
  have e1 := Ex.new (o := .lst []) n1
  have e2 := Ex.new (o := .tup [.ref p1, .bl true]) m1
  have e3 := Ex.new (o := .tup [.ref b, .bl false]) m2
  have e4 := Ex.new (o := .lst [.int 0]) n3
  have e5 := Ex.new (o := .tup [.ref p3, .bl true]) m3
  have e6 := Ex.new (o := .lst [.ref t1, .ref t2, .ref t3]) nk
  have e36 := ((e3.trans e4).trans e5).trans e6
  exact k tk [t1, t2, t3] _ ((e1.trans e2).trans e36) upd_same (.cons (st_of (e36 _ _ upd_same)) (sq_of (xs := ([] : List Int).map V.int) ((e2.trans e36) _ _ upd_same)) (.cons (st_of (((e4.trans e5).trans e6) _ _ upd_same)) (ex_l ((e1.trans e2).trans e36) hb) (.cons (st_of (e6 _ _ upd_same)) (sq_of (xs := ([0] : List Int).map V.int) ((e5.trans e6) _ _ upd_same)) .nil)))
end
theorem drop_question {H : Hp} {a : Addr} {m : List Int} {L : Nat} {Q : VK} {E : XK} (ha : SqL K H a (m.map V.int)) (hm : MOk L m) (h1 : 1 ≤ m.length) (z : ∀ v H2, Ex H H2 → Q v H2) : spQuestion K [.ref a, .int (L : Int)] H Q E :=
  ⟨a, m, L, rfl, ha, hm, h1, fun _ H2 e2 => z _ H2 e2, fun q t _ _ p H2 np e2 hp => z _ H2 e2⟩

/-! ### _law_called -/
def spCalled (K : PySem.W.Frag) (ea : EA) : Sp := fun vs H Q E => ∃ (w : Nat) (a b : Addr) (m q : List Int) (l y : Int), vs = [.int (w : Int), .ref a, .int l, .ref b, .int y] ∧ SqL K H a (m.map V.int) ∧ m.length ≤ 1000 ∧ SqL K H b (q.map V.int) ∧ w < 9 ∧
  (outc w l m q y = none → RetV .non H Q) ∧ ∀ i, outc w l m q y = some i → ∀ H', Ex H H' → E (.ref (ea.at i)) none H'
theorem ok_called {ea : EA} (T : Txt K mg) (TX : Tx K mg ea) : Good P w K mg base (L2.CX P w) 61 "_law_called" ["which", "marks", "lies", "asked", "many"] (spCalled K ea) := by
  have gx_standing := joinX (ok_standing (P := P) (w := w) (base := base) T) (ok_standingX (P := P) (w := w) (base := base) T TX)
  have gx_need := joinX (ok_need (P := P) (w := w) (base := base) T) ((ok_needX (P := P) (w := w) (base := base) T TX).mono (by decide))
  have gx_question := joinX (ok_question (P := P) (w := w) (base := base) T) ((ok_questionX (P := P) (w := w) (base := base) T TX).mono (by decide))
  have gx_shown := joinX (ok_shown (P := P) (w := w) (base := base) T) (ok_shownX (P := P) (w := w) (base := base) T TX)
  have gx_weight := joinX (ok_weight (P := P) (w := w) (base := base) T) (ok_weightX (P := P) (w := w) (base := base) T TX)
  have gx_after := joinX (ok_after (P := P) (w := w) (base := base) T) (ok_afterX (P := P) (w := w) (base := base) T TX)
  have gx_answer := joinX (ok_answer (P := P) (w := w) (base := base) T) (ok_answerX (P := P) (w := w) (base := base) T TX)
  have gx_marked := joinX (ok_marked (P := P) (w := w) (base := base) T) (ok_markedX (P := P) (w := w) (base := base) T TX)
  have gx_begun := joinX (ok_begun (P := P) (w := w) (base := base) T) (ok_begunX (P := P) (w := w) (base := base) T TX)
  refine Good.ofX T.f__law_called sc__law_called (fun vs H Q E h => ?_) (fun f cdv A outer s H vs Q E hr h => ?_)
  · obtain ⟨w, a, b, m, q, l, y, rfl, _⟩ := h
    rfl
  obtain ⟨w', a, b, m, q, l, y, rfl, ha, hz, hb, hw, kn, ks⟩ := h
  refine ⟨_, (C8.pss_cut (ps_if (pt_cmpR op_eq (pv 0) pe_int (nomark _)) (pss_one (ps_expr (cgX gx_standing (takes_of rfl rfl rfl rfl) (hr.mono (by first | decide | omega)) (pa_cons (pv 1) (pa_cons (pv 2) pa_nil))))) pss_nil)
      (C8.pss_cut (ps_if (pt_cmpR op_eq (pv 0) pe_int (nomark _)) (pss_one (ps_expr (cgX gx_need (takes_of rfl rfl rfl rfl) (hr.mono (by first | decide | omega)) (pa_cons (pv 1) (pa_cons (pv 2) pa_nil))))) pss_nil)
      (C8.pss_cut (ps_if (pt_cmpR op_eq (pv 0) pe_int (nomark _)) (pss_one (ps_expr (cgX gx_question (takes_of rfl rfl rfl rfl) (hr.mono (by first | decide | omega)) (pa_cons (pv 1) (pa_cons (pv 2) pa_nil))))) pss_nil)
      (C8.pss_cut (ps_if (pt_cmpR op_eq (pv 0) pe_int (nomark _)) (pss_one (ps_expr (cgX gx_shown (takes_of rfl rfl rfl rfl) (hr.mono (by first | decide | omega)) (pa_cons (pv 1) (pa_cons (pv 2) pa_nil))))) pss_nil)
      (C8.pss_cut (ps_if (pt_cmpR op_eq (pv 0) pe_int (nomark _)) (pss_one (ps_expr (cgX gx_weight (takes_of rfl rfl rfl rfl) (hr.mono (by first | decide | omega)) (pa_cons (pv 1) (pa_cons (pv 2) (pa_cons (pv 4) pa_nil)))))) pss_nil)
      (C8.pss_cut (ps_if (pt_cmpR op_eq (pv 0) pe_int (nomark _)) (pss_one (ps_expr (cgX gx_after (takes_of rfl rfl rfl rfl) (hr.mono (by first | decide | omega)) (pa_cons (pv 1) (pa_cons (pv 2) (pa_cons (pv 3) (pa_cons pe_bl pa_nil))))))) pss_nil)
      (C8.pss_cut (ps_if (pt_cmpR op_eq (pv 0) pe_int (nomark _)) (pss_one (ps_expr (cgX gx_answer (takes_of rfl rfl rfl rfl) (hr.mono (by first | decide | omega)) (pa_cons (pv 1) (pa_cons (pv 2) (pa_cons (pv 3) pa_nil)))))) pss_nil)
      (C8.pss_cut (ps_if (pt_cmpR op_eq (pv 0) pe_int (nomark _)) (pss_one (ps_expr (cgX gx_marked (takes_of rfl rfl rfl rfl) (hr.mono (by first | decide | omega)) (pa_cons (pe_callB (kc_len (K := K) rfl) (by rfl) T.b_len (by decide +kernel) (pa_cons (pv 1) pa_nil)) (pa_cons (pv 2) (pa_cons (pe_lst (pa_cons (pe_tup (pa_cons (pe_lst pa_nil) (pa_cons pe_bl pa_nil))) (pa_cons (pe_tup (pa_cons (pv 3) (pa_cons pe_bl pa_nil))) (pa_cons (pe_tup (pa_cons (pe_lst (pa_cons pe_int pa_nil)) (pa_cons pe_bl pa_nil))) pa_nil)))) pa_nil)))))) pss_nil)
      (pss_one (ps_if (pt_cmpR op_eq (pv 0) pe_int (nomark _)) (pss_one (ps_expr (cgX gx_begun (takes_of rfl rfl rfl rfl) (hr.mono (by first | decide | omega)) (pa_cons (pe_callB (kc_len (K := K) rfl) (by rfl) T.b_len (by decide +kernel) (pa_cons (pv 1) pa_nil)) pa_nil)))) pss_nil)))))))))), ?_⟩
  obtain ⟨o, ho⟩ : ∃ o, o = outc w' l m q y := ⟨_, rfl⟩
  rw [← ho] at kn ks
  have st : ∀ k : Nat, decide ((w' : Int) = (k : Int)) = decide (w' = k) := fun k => by
    rw [decide_eq_decide]
    omega
  have e : Ex H H := Ex.refl H
  have pr : w' < 0 → o = none := fun z => absurd z (by omega)
  -- which == 0
  refine ⟨fun σ' H' => σ' = [some (.int (w' : Int)), some (.ref a), some (.int l), some (.ref b), some (.int y)] ∧ Ex H H' ∧ (w' < 1 → o = none), ?_, fun σ' H1 p1 => ?_⟩
  · refine s_when (b := decide (w' = 0)) (et_is (et_test (ev_op (ev_var rfl) ev_c rv_eqI)) (st 0)) (fun hb0 G0 f0 => ?_) (fun hb0 G0 f0 => ⟨rfl, e.trans f0, fun z => pr (by have := of_decide_eq_false hb0; omega)⟩)
    have hw0 := of_decide_eq_true hb0
    have eG := e.trans f0
    have hoo : o = o1 l m := by rw [ho, hw0]; rfl
    rw [hoo] at kn ks
    exact ⟨_, rfl, _, rfl, call_ma (ex_l eG ha) hz (fun L hL hok h1 z => by subst hL; exact l_standing (ex_l eG ha) hok h1 G0 (Ex.refl _) _ (fun p H2 _ e2 _ => z (.ref p) H2 e2) _) (fun hn v H2 e2 => ⟨rfl, eG.trans e2, fun _ => hoo.trans hn⟩) (fun i hi H2 e2 => ks i hi H2 (eG.trans e2))⟩
  obtain ⟨rfl, e, pr⟩ := p1
  -- which == 1
  refine ⟨fun σ' H' => σ' = [some (.int (w' : Int)), some (.ref a), some (.int l), some (.ref b), some (.int y)] ∧ Ex H H' ∧ (w' < 2 → o = none), ?_, fun σ' H2 p2 => ?_⟩
  · refine s_when (b := decide (w' = 1)) (et_is (et_test (ev_op (ev_var rfl) ev_c rv_eqI)) (st 1)) (fun hb0 G1 f1 => ?_) (fun hb0 G1 f1 => ⟨rfl, e.trans f1, fun z => pr (by have := of_decide_eq_false hb0; omega)⟩)
    have hw0 := of_decide_eq_true hb0
    have eG := e.trans f1
    have hoo : o = o1 l m := by rw [ho, hw0]; rfl
    rw [hoo] at kn ks
    exact ⟨_, rfl, _, rfl, call_ma (ex_l eG ha) hz (fun L hL hok h1 z => by subst hL; exact v_need (ex_l eG ha) hok h1 G1 (Ex.refl _) _ (fun H2 e2 => z (.int (LA.nd L m : Int)) H2 e2) _) (fun hn v H2 e2 => ⟨rfl, eG.trans e2, fun _ => hoo.trans hn⟩) (fun i hi H2 e2 => ks i hi H2 (eG.trans e2))⟩
  obtain ⟨rfl, e, pr⟩ := p2
  -- which == 2
  refine ⟨fun σ' H' => σ' = [some (.int (w' : Int)), some (.ref a), some (.int l), some (.ref b), some (.int y)] ∧ Ex H H' ∧ (w' < 3 → o = none), ?_, fun σ' H3 p3 => ?_⟩
  · refine s_when (b := decide (w' = 2)) (et_is (et_test (ev_op (ev_var rfl) ev_c rv_eqI)) (st 2)) (fun hb0 G2 f2 => ?_) (fun hb0 G2 f2 => ⟨rfl, e.trans f2, fun z => pr (by have := of_decide_eq_false hb0; omega)⟩)
    have hw0 := of_decide_eq_true hb0
    have eG := e.trans f2
    have hoo : o = o1 l m := by rw [ho, hw0]; rfl
    rw [hoo] at kn ks
    exact ⟨_, rfl, _, rfl, call_ma (ex_l eG ha) hz (fun L hL hok h1 z => by subst hL; exact drop_question (ex_l eG ha) hok h1 z) (fun hn v H2 e2 => ⟨rfl, eG.trans e2, fun _ => hoo.trans hn⟩) (fun i hi H2 e2 => ks i hi H2 (eG.trans e2))⟩
  obtain ⟨rfl, e, pr⟩ := p3
  -- which == 3
  refine ⟨fun σ' H' => σ' = [some (.int (w' : Int)), some (.ref a), some (.int l), some (.ref b), some (.int y)] ∧ Ex H H' ∧ (w' < 4 → o = none), ?_, fun σ' H4 p4 => ?_⟩
  · refine s_when (b := decide (w' = 3)) (et_is (et_test (ev_op (ev_var rfl) ev_c rv_eqI)) (st 3)) (fun hb0 G3 f3 => ?_) (fun hb0 G3 f3 => ⟨rfl, e.trans f3, fun z => pr (by have := of_decide_eq_false hb0; omega)⟩)
    have hw0 := of_decide_eq_true hb0
    have eG := e.trans f3
    have hoo : o = o1 l m := by rw [ho, hw0]; rfl
    rw [hoo] at kn ks
    exact ⟨_, rfl, _, rfl, call_ma (ex_l eG ha) hz (fun L hL hok h1 z => by subst hL; exact v_shown (ex_l eG ha) hok h1 G3 (Ex.refl _) _ (fun H2 e2 => z (.str (tx (m.map (sg (L : Int))))) H2 e2) _) (fun hn v H2 e2 => ⟨rfl, eG.trans e2, fun _ => hoo.trans hn⟩) (fun i hi H2 e2 => ks i hi H2 (eG.trans e2))⟩
  obtain ⟨rfl, e, pr⟩ := p4
  -- which == 4
  refine ⟨fun σ' H' => σ' = [some (.int (w' : Int)), some (.ref a), some (.int l), some (.ref b), some (.int y)] ∧ Ex H H' ∧ (w' < 5 → o = none), ?_, fun σ' H5 p5 => ?_⟩
  · refine s_when (b := decide (w' = 4)) (et_is (et_test (ev_op (ev_var rfl) ev_c rv_eqI)) (st 4)) (fun hb0 G4 f4 => ?_) (fun hb0 G4 f4 => ⟨rfl, e.trans f4, fun z => pr (by have := of_decide_eq_false hb0; omega)⟩)
    have hw0 := of_decide_eq_true hb0
    have eG := e.trans f4
    have hoo : o = o4 l m y := by rw [ho, hw0]; rfl
    rw [hoo] at kn ks
    exact ⟨_, rfl, _, rfl, _, rfl, call_weight (ex_l eG ha) hz (fun hn v H2 e2 => ⟨rfl, eG.trans e2, fun _ => hoo.trans hn⟩) (fun i hi H2 e2 => ks i hi H2 (eG.trans e2))⟩
  obtain ⟨rfl, e, pr⟩ := p5
  -- which == 5
  refine ⟨fun σ' H' => σ' = [some (.int (w' : Int)), some (.ref a), some (.int l), some (.ref b), some (.int y)] ∧ Ex H H' ∧ (w' < 6 → o = none), ?_, fun σ' H6 p6 => ?_⟩
  · refine s_when (b := decide (w' = 5)) (et_is (et_test (ev_op (ev_var rfl) ev_c rv_eqI)) (st 5)) (fun hb0 G5 f5 => ?_) (fun hb0 G5 f5 => ⟨rfl, e.trans f5, fun z => pr (by have := of_decide_eq_false hb0; omega)⟩)
    have hw0 := of_decide_eq_true hb0
    have eG := e.trans f5
    have hoo : o = o5 l m q := by rw [ho, hw0]; rfl
    rw [hoo] at kn ks
    exact ⟨_, rfl, _, rfl, _, rfl, call_after (ex_l eG ha) hz (ex_l eG hb) (fun hn v H2 e2 => ⟨rfl, eG.trans e2, fun _ => hoo.trans hn⟩) (fun i hi H2 e2 => ks i hi H2 (eG.trans e2))⟩
  obtain ⟨rfl, e, pr⟩ := p6
  -- which == 6
  refine ⟨fun σ' H' => σ' = [some (.int (w' : Int)), some (.ref a), some (.int l), some (.ref b), some (.int y)] ∧ Ex H H' ∧ (w' < 7 → o = none), ?_, fun σ' H7 p7 => ?_⟩
  · refine s_when (b := decide (w' = 6)) (et_is (et_test (ev_op (ev_var rfl) ev_c rv_eqI)) (st 6)) (fun hb0 G6 f6 => ?_) (fun hb0 G6 f6 => ⟨rfl, e.trans f6, fun z => pr (by have := of_decide_eq_false hb0; omega)⟩)
    have hw0 := of_decide_eq_true hb0
    have eG := e.trans f6
    have hoo : o = o5 l m q := by rw [ho, hw0]; rfl
    rw [hoo] at kn ks
    exact ⟨_, rfl, _, rfl, _, rfl, call_answer (ex_l eG ha) hz (ex_l eG hb) (fun hn v H2 e2 => ⟨rfl, eG.trans e2, fun _ => hoo.trans hn⟩) (fun i hi H2 e2 => ks i hi H2 (eG.trans e2))⟩
  obtain ⟨rfl, e, pr⟩ := p7
  -- which == 7
  refine ⟨fun σ' H' => σ' = [some (.int (w' : Int)), some (.ref a), some (.int l), some (.ref b), some (.int y)] ∧ Ex H H' ∧ (w' < 8 → o = none), ?_, fun σ' H8 p8 => ?_⟩
  · refine s_when (b := decide (w' = 7)) (et_is (et_test (ev_op (ev_var rfl) ev_c rv_eqI)) (st 7)) (fun hb0 G7 f7 => ?_) (fun hb0 G7 f7 => ⟨rfl, e.trans f7, fun z => pr (by have := of_decide_eq_false hb0; omega)⟩)
    have hw0 := of_decide_eq_true hb0
    have eG := e.trans f7
    have hoo : o = o7 l m q := by rw [ho, hw0]; rfl
    rw [hoo] at kn ks
    refine (ev_is (ev_len (ev_var rfl) (ex_l eG ha)) (by rw [len_map]) : Ev _ _ G7 (.int (m.length : Int))) G7 (Ex.refl G7) _ fun G7' f7' => ?_
    have eG := eG.trans f7'
    refine ⟨_, rfl, ?_⟩
    refine talk_made (q := q) rfl (ex_l eG hb) fun tk ts G7'' e7 ht hT => ?_
    have eG := eG.trans e7
    exact call_marked rfl (sq_of ht) hT (fun hn v H2 e2 => ⟨rfl, eG.trans e2, fun _ => hoo.trans hn⟩) (fun i hi H2 e2 => ks i hi H2 (eG.trans e2))
  obtain ⟨rfl, e, pr⟩ := p8
  -- which == 8
  refine s_when (b := decide (w' = 8)) (et_is (et_test (ev_op (ev_var rfl) ev_c rv_eqI)) (st 8)) (fun hb0 G8 f8 => ?_) (fun hb0 G8 f8 => kn (pr (by have := of_decide_eq_false hb0; omega)) G8 (e.trans f8))
  have hw0 := of_decide_eq_true hb0
  have eG := e.trans f8
  have hoo : o = o8 m := by rw [ho, hw0]; rfl
  rw [hoo] at kn ks
  refine (ev_is (ev_len (ev_var rfl) (ex_l eG ha)) (by rw [len_map]) : Ev _ _ G8 (.int (m.length : Int))) G8 (Ex.refl G8) _ fun G8' f8' => ?_
  have eG := eG.trans f8'
  exact call_begun rfl (fun hn v H2 e2 => kn hn H2 (eG.trans e2)) (fun i hi H2 e2 => ks i hi H2 (eG.trans e2))
/-! ### _law_tried -/
def wordO : Option Nat → Str
  | none => "done"
  | some i => word i
theorem v_word {ea : EA} {a : Addr} {i : Nat} {H : Hp} (hi : i < 5) : SpV (spWord ea a (.ref (ea.at i)) none) [.ref a] H (.str (word i)) := fun H1 e Q q E => ⟨i, hi, rfl, rfl, rfl, q⟩
theorem outc_lt {w : Nat} {l y : Int} {m q : List Int} {i : Nat} (h : outc w l m q y = some i) : i < 5 := by
  unfold outc o1 o4 o5 o7 o8 at h
  split at h
  · split at h
    · cases h; decide
    · split at h
      · cases h; decide
      · cases h
  · split at h
    · split at h
      · cases h; decide
      · split at h
        · cases h; decide
        · split at h
          · cases h; decide
          · cases h
    · split at h
      · split at h
        · cases h; decide
        · split at h
          · cases h; decide
          · split at h
            · cases h
            · cases h; decide
      · split at h
        · split at h
          · cases h; decide
          · split at h
            · cases h; decide
            · split at h
              · cases h
              · cases h; decide
        · split at h
          · cases h; decide
          · cases h
def spTried (K : PySem.W.Frag) : Sp := fun vs H Q _ => ∃ (w : Nat) (a b : Addr) (m q : List Int) (l y : Int), vs = [.int (w : Int), .ref a, .int l, .ref b, .int y] ∧ SqL K H a (m.map V.int) ∧ m.length ≤ 1000 ∧ SqL K H b (q.map V.int) ∧ w < 9 ∧ RetV (.str (wordO (outc w l m q y))) H Q
theorem ok_tried {ea : EA} (T : Txt K mg) (TX : Tx K mg ea) : Good P w K mg base CX0 62 "_law_tried" ["which", "marks", "lies", "asked", "many"] (spTried K) := by
  have gx_called := ok_called (P := P) (w := w) (base := base) T TX
  have g_word := ok_word (P := P) (w := w) (base := base) T TX
  refine Good.of T.f__law_tried sc__law_tried (fun vs H Q E h => ?_) (fun f cdv A outer s H vs Q E hr h => ?_)
  · obtain ⟨w, a, b, m, q, l, y, rfl, _⟩ := h
    rfl
  obtain ⟨w', a, b, m, q, l, y, rfl, ha, hz, hb, hw, k⟩ := h
  refine ⟨_, (pss_cons (ps_try_as (i := 5) (tb := fun W => tDrop (tCallS (spCalled K ea) (WE W) (tCons (tVar 0) (tCons (tVar 1) (tCons (tVar 2) (tCons (tVar 3) (tCons (tVar 4) tNil))))))) (ts := fun a cls d => tRet (tCall (spWord ea a cls d) [] E0 (tCons (tVar 5) tNil))) (Wout := fun _ _ _ _ => False) rfl rfl sc__law_tried.nd rfl rfl ⟨rfl, by decide, .inl TX.gL⟩ takes0 (fun W pn xe tk _ => (pss_one (ps_expr (cgX gx_called tk (hr.mono (by first | decide | omega)) (pa_cons (pv 0) (pa_cons (pv 1) (pa_cons (pv 2) (pa_cons (pv 3) (pa_cons (pv 4) pa_nil)))))))))
    (fun a oe cls d pn hz hf => (pss_one (ps_ret (cgP g_word (p0 := (a, oe)) List.mem_cons_self hz hf ⟨(hr.mono (j := 1) (by decide)).dp, (hr.mono (j := 1) (by decide)).un⟩ (pa_cons (pv 5) pa_nil)))))) (pss_one (ps_ret pe_str))), ?_⟩
  refine ⟨_, rfl, _, rfl, _, rfl, _, rfl, _, rfl, w', a, b, m, q, l, y, rfl, ha, hz, hb, hw, fun hn H1 e1 => ?_, fun i hi H1 e1 => ⟨true, TX.ex i (outc_lt hi), fun _ a na => ?_, fun z => nomatch z⟩⟩
  · rw [hn] at k
    dsimp only
    refine s_ret (v := .str (wordO none)) ev_c fun H2 e2 => ?_
    exact k H2 (e1.trans e2)
  · rw [hi] at k
    exact s_ret (v := .str (wordO (some i))) (ev_call (ea_cons (ev_var rfl) ea_nil) (v_word (outc_lt hi))) fun H2 e2 => k H2 (e1.trans e2)

/-! ### lists put together -/
def EvW (te : TE) (σ : L2.St) (H : Hp) (xs : List V) : Prop := ∀ H1, Ex H H1 → ∀ Q : VK, (∀ p H2, Ex H1 H2 → H2 p = some (.lst xs) → Q (.ref p) H2) → te σ H1 Q
theorem ew_of {te : TE} {σ : L2.St} {H : Hp} {xs : List V} (h : EvL te σ H xs) : EvW te σ H xs := fun H1 e Q q => h H1 e Q fun p H2 _ e2 hp => q p H2 e2 hp
theorem ew_var {σ : L2.St} {H : Hp} {i : Nat} {p : Addr} {xs : List V} (h : σ[i]? = some (some (.ref p))) (hp : H p = some (.lst xs)) : EvW (tVar i) σ H xs := fun H1 e Q q => ⟨_, h, q p H1 (Ex.refl H1) (e _ _ hp)⟩
theorem el_cat {ta tb : TE} {σ : L2.St} {H : Hp} {xs ys : List V} (ha : EvW ta σ H xs) (hb : EvW tb σ H ys) (hz : xs.length + ys.length ≤ 100000) : EvL (tOp rCat ta tb) σ H (xs ++ ys) := fun H1 e Q q =>
  ha H1 e _ fun p H2 e2 hp => hb H2 (e.trans e2) _ fun r H3 e3 hr => ⟨p, r, xs, ys, rfl, rfl, e3 _ _ hp, hr, sz_of hz, fun l nl => q l _ (fresh_back (e2.trans e3) nl) ((e2.trans e3).trans (Ex.new nl)) upd_same⟩
theorem cutVTo {q : List Int} {k : Nat} (h : k ≤ q.length) : cutV (q.map V.int) none (some (k : Int)) = (q.take k).map V.int := by
  unfold cutV
  rw [HT.sIx_none, HT.sIx_nat, len_map, Nat.min_eq_left h, List.drop_zero, Nat.sub_zero, List.map_take]
theorem cutVFrom {q : List Int} {k : Nat} (h : k ≤ q.length) : cutV (q.map V.int) (some (k : Int)) none = (q.drop k).map V.int := by
  unfold cutV
  rw [HT.sIx_none, HT.sIx_nat, len_map, Nat.min_eq_left h, List.take_of_length_le (by rw [List.length_drop, len_map]; omega), List.map_drop]
theorem rise_app {n : Int} : ∀ {p s : List Int} {b : Int}, Rise b (p ++ s) n → ∃ b', Rise b' s n
  | [], s, b, h => ⟨b, h⟩
  | x :: p, s, b, h => rise_app (p := p) h.2.2
theorem rise_no {n : Int} {p s : List Int} {b x y : Int} (h : y ≤ x) : ¬ Rise b (p ++ x :: y :: s) n := fun z => by
  obtain ⟨b', _, _, z1, _⟩ := rise_app z
  omega
theorem rise_end {n : Int} {p : List Int} {b x : Int} (h : n ≤ x) : ¬ Rise b (p ++ [x]) n := fun z => by
  obtain ⟨b', _, z1, _⟩ := rise_app z
  omega
theorem take_at {q : List Int} {k : Nat} (h : k < q.length) : q.take (k + 1) = q.take k ++ [q[k]] := by
  rw [List.take_add_one, List.getElem?_eq_getElem h]
  rfl
theorem int_20 : (0 : Int) < 10 ^ (20 : Int).toNat := by decide
/-! ### _law_bad_marks, _law_bad_question -/
def spBM (K : PySem.W.Frag) : Sp := fun vs H Q _ => ∃ (a : Addr) (m : List Int) (L kd : Nat) (c : Int), vs = [.ref a, .int (L : Int), .int (kd : Int), .int c] ∧ SqL K H a (m.map V.int) ∧ 1 ≤ m.length ∧ m.length ≤ 8 ∧ kd < 5 ∧
  ∀ m' : List Int, m'.length ≤ 9 → badM (L : Int) m' → (badN m'.length ∨ m'.length = m.length) → RetL (m'.map V.int) H Q
theorem ok_badmarks (T : Txt K mg) : Good P w K mg base CX0 1 "_law_bad_marks" ["marks", "lies", "kind", "cell"] (spBM K) := by
  refine Good.of T.f__law_bad_marks sc__law_bad_marks (fun vs H Q E h => ?_) (fun f cdv A outer s H vs Q E hr h => ?_)
  · obtain ⟨a, m, L, kd, c, rfl, _⟩ := h
    rfl
  obtain ⟨a, m, L, kd, c, rfl, ha, h1, h8, hk, k⟩ := h
  refine ⟨_, (pss_cons (ps_set (i := 4) sc__law_bad_marks.nd rfl (Or.inl rfl) (pe_op op_mod (pe_op op_fdiv (pv 3) pe_int) (pe_op op_pow pe_int pe_int)))
      (pss_cons (ps_if (pt_cmpR op_eq (pv 2) pe_int (nomark _)) (pss_one (ps_ret (pe_lst pa_nil))) pss_nil)
      (pss_cons (ps_if (pt_cmpR op_eq (pv 2) pe_int (nomark _)) (pss_one (ps_ret (pe_lc (own := [("k", 6)]) (by rfl) sc__law_bad_marks.nd (pi_range1 (by rfl) T.b_range (pa_cons pe_int pa_nil)) (blkOk_by (own := [("k", 6)]) (N := n__law_bad_marks) (sc := defScope s__law_bad_marks) (by decide +kernel)) (fun _ _ _ _ _ => (pg_name (i := 6) sc__law_bad_marks.nd rfl (Or.inl rfl))) (fun _ _ _ _ _ => pts_nil) (fun _ _ _ _ _ => pe_int)))) pss_nil)
      (pss_cons (ps_set (i := 5) sc__law_bad_marks.nd rfl (Or.inl rfl) (pe_callTy (kc_list (K := K) rfl) (by rfl) T.b_list (by decide +kernel) (pa_cons (pv 0) pa_nil)))
      (pss_cons (ps_asg (pe_ix (kix_list (K := K) rfl) (pe_lst (pa_cons (pe_op op_sub (pe_un un_neg pe_int) (pv 4)) (pa_cons (pe_op op_add (pv 1) pe_int) (pa_cons (pe_op op_add (pe_op op_add (pv 1) pe_int) (pv 4)) pa_nil)))) (pe_op op_sub (pv 2) pe_int) (fun _ _ => rfl)) (pg_sub (pv 5) (pe_op op_mod (pv 3) (pe_callB (kc_len (K := K) rfl) (by rfl) T.b_len (by decide +kernel) (pa_cons (pv 5) pa_nil))) set_list))
      (pss_one (ps_ret (pv 5)))))))), ?_⟩
  refine q_asg (v := .int (c / 64 % 10 ^ (20 : Int).toNat)) (ev_op (ev_op (ev_var rfl) ev_c (rv_I (show (0 : Int) < 64 ∧ (64 : Int) < 1073741824 by decide))) (ev_op ev_c ev_c (rv_I (show (0 : Int) ≤ 20 ∧ (20 : Int) ≤ 1000000 ∧ (10 : Int).natAbs < 2 ^ 64 by decide))) (rv_I int_20)) fun H1 e1 => ?_
  have hfar := Int.emod_nonneg (c / 64) (Int.ne_of_gt int_20)
  generalize c / 64 % 10 ^ (20 : Int).toNat = far at hfar
  refine q_when (b := decide (kd = 0)) (et_is (et_test (ev_op (ev_var rfl) ev_c rv_eqI)) (by rw [decide_eq_decide]; omega)) (fun hb H2 e2 => ?_) (fun hb H2 e2 => ?_)
  · exact s_retL (xs := ([] : List Int).map V.int) (el_lst ea_nil (Nat.zero_le _)) fun p H3 np e3 h3 => k [] (by decide) (.inl (.inl (by decide))) (.inl (.inl (by decide))) p H3 (fresh_back (e1.trans e2) np) ((e1.trans e2).trans e3) h3
  have hb0 := of_decide_eq_false hb
  have e2 := e1.trans e2
  refine q_when (b := decide (kd = 1)) (et_is (et_test (ev_op (ev_var rfl) ev_c rv_eqI)) (by rw [decide_eq_decide]; omega)) (fun hb H3 e3 => ?_) (fun hb H3 e3 => ?_)
  · have e3 := e2.trans e3
    exact s_retL (el_cI (n := 9) (fun _ => 0) (ea_cons ev_c ea_nil) (by decide) (fun _ => rfl) (fun i H1 _ _ => ev_c)) fun p H4 np e4 h4 => k ((List.range (9 : Int).toNat).map fun _ => 0) (by decide) (.inl (.inr (by decide))) (.inl (.inr (by decide))) p H4 (fresh_back e3 np) (e3.trans e4) h4
  have hb1 := of_decide_eq_false hb
  have e3 := e2.trans e3
  refine q_asgL (el_list (ev_var rfl) (ex_l e3 ha)) fun o H4 no e4 ho => ?_
  have no := fresh_back e3 no
  have e4 := e3.trans e4
  obtain ⟨at', hat⟩ : ∃ at' : Nat, (at' : Int) = c % (m.length : Int) := ⟨(c % (m.length : Int)).toNat, Int.toNat_of_nonneg (Int.emod_nonneg _ (by omega))⟩
  have atn : at' < m.length := by
    have := Int.emod_lt_of_pos c (show (0 : Int) < m.length by omega)
    omega
  obtain ⟨j, hj, hj3⟩ : ∃ j : Nat, (kd : Int) - 2 = (j : Int) ∧ j < 3 := ⟨kd - 2, by omega, by omega⟩
  refine q_setL (j := at') (v := .int (([-1 - far, (L : Int) + 2, (L : Int) + 2 + far] : List Int).getD j 0)) ho (ev_opL1 (y := .int (j : Int)) (xs := ([-1 - far, (L : Int) + 2, (L : Int) + 2 + far] : List Int).map V.int) (el_lst (ea_cons (ev_op (ev_un ev_c ru_neg) (ev_var rfl) rv_I0) (ea_cons (ev_op (ev_var rfl) ev_c rv_I0) (ea_cons (ev_op (ev_op (ev_var rfl) ev_c rv_I0) (ev_var rfl) rv_I0) ea_nil))) (by show 3 ≤ 100000; decide)) (fun G eG => ev_is (ev_op (ev_var rfl) ev_c rv_I0) (by rw [← hj])) fun p G hp _ => rv_ixL (sq_of hp) (at_int (by show j < 3; omega)))
    (ev_var rfl) (ev_is (ev_op (ev_var rfl) (ev_is (ev_len (ev_var rfl) (sq_of ho)) (by rw [len_map])) (rv_I (by show (0 : Int) < _; omega))) (by rw [hat])) (by rw [len_map]; exact atn) fun H5 e5 => ?_
  have hx : (([-1 - far, (L : Int) + 2, (L : Int) + 2 + far] : List Int).getD j 0) < 0 ∨ (L : Int) + 1 < (([-1 - far, (L : Int) + 2, (L : Int) + 2 + far] : List Int).getD j 0) := by
    have h3 : j = 0 ∨ j = 1 ∨ j = 2 := by omega
    rcases h3 with rfl | rfl | rfl
    · exact .inl (by show -1 - far < 0; omega)
    · exact .inr (by show (L : Int) + 1 < (L : Int) + 2; omega)
    · exact .inr (by show (L : Int) + 1 < (L : Int) + 2 + far; omega)
  generalize ([-1 - far, (L : Int) + 2, (L : Int) + 2 + far] : List Int).getD j 0 = x at hx
  have e6 : Ex H (upd H5 o (.lst ((m.map V.int).set at' (.int x)))) := Ex.mut (e4.trans e5) no
  have ho6 : upd H5 o (.lst ((m.map V.int).set at' (.int x))) o = some (.lst ((m.set at' x).map V.int)) := by rw [upd_same, List.map_set]
  generalize upd H5 o (.lst ((m.map V.int).set at' (.int x))) = H6 at e6 ho6
  exact s_ret (ev_var rfl) fun H7 e7 => k (m.set at' x) (by rw [List.length_set]; omega) (.inr ⟨x, List.mem_iff_getElem.mpr ⟨at', by rw [List.length_set]; exact atn, by rw [List.getElem_set_self]⟩, hx⟩) (.inr (by rw [List.length_set])) o H7 no (e6.trans e7) (e7 _ _ ho6)
def spBQ (K : PySem.W.Frag) : Sp := fun vs H Q _ => ∃ (a : Addr) (q : List Int) (n kd : Nat) (c : Int), vs = [.ref a, .int (n : Int), .int (kd : Int), .int c] ∧ H a = some (.lst (q.map V.int)) ∧ q.length ≤ 8 ∧ Rise (-1) q (n : Int) ∧ kd < 4 ∧
  ∀ q' : List Int, q'.length ≤ 20 → ¬ Rise (-1) q' (n : Int) → RetL (q'.map V.int) H Q
theorem rv_neNil {H : Hp} {a b : Addr} {q : List Int} (ha : SqL K H a (q.map V.int)) (hb : SqL K H b (([] : List Int).map V.int)) : RV (rNeD K) (.ref a) (.ref b) H (.bl (decide (0 < q.length))) := fun H1 e Q k => by
  refine ⟨dI q, dI [], dp_ints (ex_l e ha), dp_ints (ex_l e hb), shaped_dI q, shaped_dI [], ?_⟩
  have ee : (!PyData.eqv (dI q) (dI [])) = decide (0 < q.length) := by
    cases q with
    | nil => rw [eqv_dI]; rfl
    | cons x r => rfl
  rw [ee]
  exact k H1 (Ex.refl H1)
theorem ok_badquestion (T : Txt K mg) : Good P w K mg base CX0 1 "_law_bad_question" ["asked", "things", "kind", "cell"] (spBQ K) := by
  refine Good.of T.f__law_bad_question sc__law_bad_question (fun vs H Q E h => ?_) (fun f cdv A outer s H vs Q E hr h => ?_)
  · obtain ⟨a, q, n, kd, c, rfl, _⟩ := h
    rfl
  obtain ⟨a, q, n, kd, c, rfl, ha, h8, hR, hk, k⟩ := h
  refine ⟨_, (pss_cons (ps_set (i := 4) sc__law_bad_question.nd rfl (Or.inl rfl) (pe_op op_mod (pe_op op_fdiv (pv 3) pe_int) (pe_op op_pow pe_int pe_int)))
      (pss_cons (ps_if (PW.pt (pw_and (pt_cmpR op_eq (pv 2) pe_int (nomark _)) (pw_and1 (pt_cmpR (op_neD hr.units) (pv 0) (pe_lst pa_nil) (nomark _))))) (pss_cons (ps_set (i := 5) sc__law_bad_question.nd rfl (Or.inl rfl) (pe_op op_mod (pv 3) (pe_callB (kc_len (K := K) rfl) (by rfl) T.b_len (by decide +kernel) (pa_cons (pv 0) pa_nil))))
      (pss_one (ps_ret (pe_op op_cat (pe_slice (ksl_list (K := K) rfl) (pv 0) po_none (po_some (pe_op op_add (pv 5) pe_int))) (pe_slice (ksl_list (K := K) rfl) (pv 0) (po_some (pv 5)) po_none))))) pss_nil)
      (pss_cons (ps_if (PW.pt (pw_and (pt_cmpR op_eq (pv 2) pe_int (nomark _)) (pw_and1 (pt_cmpR op_gt (pe_callB (kc_len (K := K) rfl) (by rfl) T.b_len (by decide +kernel) (pa_cons (pv 0) pa_nil)) pe_int (nomark _))))) (pss_cons (ps_set (i := 5) sc__law_bad_question.nd rfl (Or.inl rfl) (pe_op op_mod (pv 3) (pe_op op_sub (pe_callB (kc_len (K := K) rfl) (by rfl) T.b_len (by decide +kernel) (pa_cons (pv 0) pa_nil)) pe_int)))
      (pss_one (ps_ret (pe_op op_cat (pe_op op_cat (pe_slice (ksl_list (K := K) rfl) (pv 0) po_none (po_some (pv 5))) (pe_lst (pa_cons (pe_ix (kix_list (K := K) rfl) (pv 0) (pe_op op_add (pv 5) pe_int) (fun _ _ => rfl)) (pa_cons (pe_ix (kix_list (K := K) rfl) (pv 0) (pv 5) (fun _ _ => rfl)) pa_nil)))) (pe_slice (ksl_list (K := K) rfl) (pv 0) (po_some (pe_op op_add (pv 5) pe_int)) po_none))))) pss_nil)
      (pss_cons (ps_if (pt_cmpR op_eq (pv 2) pe_int (nomark _)) (pss_one (ps_ret (pe_op op_cat (pe_lst (pa_cons (pe_op op_sub (pe_un un_neg pe_int) (pv 4)) pa_nil)) (pv 0)))) pss_nil)
      (pss_one (ps_ret (pe_op op_cat (pv 0) (pe_lst (pa_cons (pe_op op_add (pv 1) (pv 4)) pa_nil))))))))), ?_⟩
  refine q_asg (v := .int (c / 64 % 10 ^ (20 : Int).toNat)) (ev_op (ev_op (ev_var rfl) ev_c (rv_I (show (0 : Int) < 64 ∧ (64 : Int) < 1073741824 by decide))) (ev_op ev_c ev_c (rv_I (show (0 : Int) ≤ 20 ∧ (20 : Int) ≤ 1000000 ∧ (10 : Int).natAbs < 2 ^ 64 by decide))) (rv_I int_20)) fun H1 e1 => ?_
  have hfar := Int.emod_nonneg (c / 64) (Int.ne_of_gt int_20)
  generalize c / 64 % 10 ^ (20 : Int).toNat = far at hfar
  have ha1 := e1 _ _ ha
  refine q_when (b := decide (kd = 0) && decide (0 < q.length)) (et_and (et_is (et_test (ev_op (ev_var rfl) ev_c rv_eqI)) (by rw [decide_eq_decide]; omega)) fun _ => et_test (ev_opL (ev_var rfl) (el_lst ea_nil (Nat.zero_le _)) fun p G hp eG => rv_neNil (sq_of (eG _ _ ha1)) (sq_of (xs := ([] : List Int).map V.int) hp))) (fun hb H2 e2 => ?_) (fun _ H2 e2 => ?_)
  · rw [Bool.and_eq_true] at hb
    have q0 := of_decide_eq_true hb.2
    have ha2 := e2 _ _ ha1
    obtain ⟨at', hat⟩ : ∃ at' : Nat, (at' : Int) = c % (q.length : Int) := ⟨(c % (q.length : Int)).toNat, Int.toNat_of_nonneg (Int.emod_nonneg _ (by omega))⟩
    have atn : at' < q.length := by
      have := Int.emod_lt_of_pos c (show (0 : Int) < q.length by omega)
      omega
    refine q_asg (v := .int (at' : Int)) (ev_is (ev_op (ev_var rfl) (ev_is (ev_len (ev_var rfl) (sq_of ha2)) (by rw [len_map])) (rv_I (by show (0 : Int) < q.length; omega))) (by rw [hat])) fun H3 e3 => ?_
    have ha3 := e3 _ _ ha2
    have e3 := (e1.trans e2).trans e3
    have z1 := el_sl (K := K) (σ := [some (.ref a), some (.int (n : Int)), some (.int (kd : Int)), some (.int c), some (.int far), some (.int (at' : Int))]) (H := H3) (te := tVar 0) (lo := none) (hi := some ((at' + 1 : Nat) : Int)) (ev_var rfl) eo_none (eo_some (te := tOp (rI0 fun i j => .int (i + j)) (tVar 5) (tC (.int 1))) (ev_op (ev_var rfl) ev_c rv_I0)) (sq_of ha3)
    have z2 := el_sl (K := K) (σ := [some (.ref a), some (.int (n : Int)), some (.int (kd : Int)), some (.int c), some (.int far), some (.int (at' : Int))]) (H := H3) (te := tVar 0) (lo := some (at' : Int)) (hi := none) (ev_var rfl) (eo_some (te := tVar 5) (ev_var rfl)) eo_none (sq_of ha3)
    rw [cutVTo (by omega)] at z1
    rw [cutVFrom (by omega)] at z2
    have z3 := el_cat (ew_of z1) (ew_of z2) (by rw [len_map, len_map, List.length_take, List.length_drop]; omega)
    rw [← List.map_append] at z3
    refine s_retL z3 fun p H4 np e4 h4 => k (q.take (at' + 1) ++ q.drop at') (by rw [List.length_append, List.length_take, List.length_drop]; omega) ?_ p H4 (fresh_back e3 np) (e3.trans e4) h4
    rw [take_at atn, List.drop_eq_getElem_cons atn, List.append_assoc]
    exact rise_no (Int.le_refl _)
  have e2 := e1.trans e2
  have ha2 := e2 _ _ ha
  refine q_when (b := decide (kd = 1) && decide (1 < q.length)) (et_and (et_is (et_test (ev_op (ev_var rfl) ev_c rv_eqI)) (by rw [decide_eq_decide]; omega)) fun _ => et_is (et_test (ev_op (ev_len (ev_var rfl) (sq_of ha2)) ev_c rv_I0)) (by rw [len_map, decide_eq_decide]; omega)) (fun hb H3 e3 => ?_) (fun _ H3 e3 => ?_)
  · rw [Bool.and_eq_true] at hb
    have q1 := of_decide_eq_true hb.2
    have ha3 := e3 _ _ ha2
    obtain ⟨at', hat⟩ : ∃ at' : Nat, (at' : Int) = c % ((q.length : Int) - 1) := ⟨(c % ((q.length : Int) - 1)).toNat, Int.toNat_of_nonneg (Int.emod_nonneg _ (by omega))⟩
    have atn : at' + 1 < q.length := by
      have := Int.emod_lt_of_pos c (show (0 : Int) < (q.length : Int) - 1 by omega)
      omega
    refine q_asg (v := .int (at' : Int)) (ev_is (ev_op (ev_var rfl) (ev_op (ev_is (ev_len (ev_var rfl) (sq_of ha3)) (by rw [len_map])) ev_c rv_I0) (rv_I (by show (0 : Int) < (q.length : Int) - 1; omega))) (by rw [hat])) fun H4 e4 => ?_
    have ha4 := e4 _ _ ha3
    have e4 := (e2.trans e3).trans e4
    have z1 := el_sl (K := K) (σ := [some (.ref a), some (.int (n : Int)), some (.int (kd : Int)), some (.int c), some (.int far), some (.int (at' : Int))]) (H := H4) (te := tVar 0) (lo := none) (hi := some (at' : Int)) (ev_var rfl) eo_none (eo_some (te := tVar 5) (ev_var rfl)) (sq_of ha4)
    have z2 := el_sl (K := K) (σ := [some (.ref a), some (.int (n : Int)), some (.int (kd : Int)), some (.int c), some (.int far), some (.int (at' : Int))]) (H := H4) (te := tVar 0) (lo := some ((at' + 2 : Nat) : Int)) (hi := none) (ev_var rfl) (eo_some (te := tOp (rI0 fun i j => .int (i + j)) (tVar 5) (tC (.int 2))) (ev_op (ev_var rfl) ev_c rv_I0)) eo_none (sq_of ha4)
    rw [cutVTo (by omega)] at z1
    rw [cutVFrom (by omega)] at z2
    have zm : EvL (tLst (tCons (tOp (rIxL K) (tVar 0) (tOp (rI0 fun i j => .int (i + j)) (tVar 5) (tC (.int 1)))) (tCons (tOp (rIxL K) (tVar 0) (tVar 5)) tNil))) [some (.ref a), some (.int (n : Int)), some (.int (kd : Int)), some (.int c), some (.int far), some (.int (at' : Int))] H4 (([q.getD (at' + 1) 0, q.getD at' 0] : List Int).map V.int) :=
      el_lst (ea_cons (ev_op (y := .int ((at' + 1 : Nat) : Int)) (ev_var rfl) (ev_op (ev_var rfl) ev_c rv_I0) (rv_ixL (sq_of ha4) (at_int (by omega)))) (ea_cons (ev_op (ev_var rfl) (ev_var rfl) (rv_ixL (sq_of ha4) (at_int (by omega)))) ea_nil)) (by show 2 ≤ 100000; decide)
    have z3 := el_cat (ew_of z1) (ew_of zm) (by rw [len_map, len_map, List.length_take]; show _ + 2 ≤ 100000; omega)
    rw [← List.map_append] at z3
    have z4 := el_cat (ew_of z3) (ew_of z2) (by rw [len_map, len_map, List.length_append, List.length_take, List.length_drop]; show _ + 2 + _ ≤ 100000; omega)
    rw [← List.map_append] at z4
    refine s_retL z4 fun p H5 np e5 h5 => k (q.take at' ++ [q.getD (at' + 1) 0, q.getD at' 0] ++ q.drop (at' + 2)) (by rw [List.length_append, List.length_append, List.length_take, List.length_drop]; show _ + 2 + _ ≤ 20; omega) ?_ p H5 (fresh_back e4 np) (e4.trans e5) h5
    rw [List.append_assoc]
    have lt := (rise_get hR (i := at' + 1) atn).2.2 (by omega)
    exact rise_no (x := q.getD (at' + 1) 0) (y := q.getD at' 0) (by rw [Nat.add_sub_cancel] at lt; omega)
  have e3 := e2.trans e3
  have ha3 := e3 _ _ ha
  refine q_when (b := decide (kd = 2)) (et_is (et_test (ev_op (ev_var rfl) ev_c rv_eqI)) (by rw [decide_eq_decide]; omega)) (fun _ H4 e4 => ?_) (fun _ H4 e4 => ?_)
  · have ha4 := e4 _ _ ha3
    have e4 := e3.trans e4
    refine s_retL (xs := ((-1 - far) :: q).map V.int) (el_cat (ew_of (el_lst (ea_cons (ev_op (ev_un ev_c ru_neg) (ev_var rfl) rv_I0) ea_nil) (by show 1 ≤ 100000; decide))) (ew_var rfl ha4) (by rw [len_map]; show 1 + _ ≤ 100000; omega)) fun p H5 np e5 h5 => k ((-1 - far) :: q) (by rw [List.length_cons]; omega) (fun z => by have := z.1; omega) p H5 (fresh_back e4 np) (e4.trans e5) h5
  · have ha4 := e4 _ _ ha3
    have e4 := e3.trans e4
    have z := el_cat (σ := [some (.ref a), some (.int (n : Int)), some (.int (kd : Int)), some (.int c), some (.int far), none]) (ta := tVar 0) (ew_var rfl ha4) (ew_of (el_lst (vs := ([(n : Int) + far] : List Int).map V.int) (ea_cons (ta := tOp (rI0 fun i j => .int (i + j)) (tVar 1) (tVar 4)) (ev_op (ev_var rfl) (ev_var rfl) rv_I0) ea_nil) (by show 1 ≤ 100000; decide))) (by rw [len_map]; show _ + 1 ≤ 100000; omega)
    rw [← List.map_append] at z
    exact s_retL z fun p H5 np e5 h5 => k (q ++ [(n : Int) + far]) (by rw [List.length_append]; show _ + 1 ≤ 20; omega) (rise_end (by omega)) p H5 (fresh_back e4 np) (e4.trans e5) h5

/-! ### what is due -/
def dD0 (bl : Bool) : Option Nat := if bl = true then some 0 else none
def dD1 (bl bm : Bool) : Option Nat := if bl = true then some 0 else if bm = true then some 1 else none
def dD2 (bl bm bq : Bool) : Option Nat := if bl = true then some 0 else if bm = true then some 1 else if bq = true then some 2 else none
def dSZ (bs : Bool) : Option Nat := if bs = true then some 1 else none
def dCD (bc : Bool) : Option Nat := if bc = true then some 3 else none
def wW0 (bl bm bq : Bool) (i : Nat) : Option Nat := if i < 5 then dD1 bl bm else dD2 bl bm bq
def wW1 (bl bm bq bc : Bool) (i : Nat) : Option Nat := if i = 4 ∧ wW0 bl bm bq i = none then dCD bc else wW0 bl bm bq i
def wW2 (bl bm bq bc bs : Bool) (i : Nat) : Option Nat := if i = 7 then (if dD0 bl = none then dSZ bs else dD0 bl) else wW1 bl bm bq bc i
def wW3 (bl bm bq bc bs : Bool) (i : Nat) : Option Nat := if i = 7 ∧ wW2 bl bm bq bc bs i = none ∧ bq = true then some 2 else wW2 bl bm bq bc bs i
def wW4 (bl bm bq bc bs : Bool) (i : Nat) : Option Nat := if i = 8 then dSZ bs else wW3 bl bm bq bc bs i
theorem want_ok {bl bm bq bc bs : Bool} {i : Nat} {l y : Int} {m q : List Int} (hi : i < 9) (hL : badL l ↔ bl = true) (hM : bl = false → (badM l m ↔ bm = true)) (hN : badN m.length ↔ bs = true) (hy : (y < 0 ∨ 100 < y) ↔ bc = true)
    (hs : bs = true → bm = true) (hR : bs = false → (Rise (-1) q (m.length : Int) ↔ bq = false)) : outc i l m q y = wW4 bl bm bq bc bs i := by
  have h9 : i = 0 ∨ i = 1 ∨ i = 2 ∨ i = 3 ∨ i = 4 ∨ i = 5 ∨ i = 6 ∨ i = 7 ∨ i = 8 := by omega
  unfold outc o1 o4 o5 o7 o8 wW4 wW3 wW2 wW1 wW0 dD0 dD1 dD2 dSZ dCD
  rcases h9 with rfl | rfl | rfl | rfl | rfl | rfl | rfl | rfl | rfl <;> cases bl <;> cases bm <;> cases bs <;> cases bq <;> cases bc <;> simp_all
theorem word_done (W : Option Nat) : decide (V.str (wordO W) = V.str (Str.ofString "done")) = decide (W = none) := by
  match W with
  | none => rfl
  | some 0 => decide +kernel
  | some 1 => decide +kernel
  | some 2 => decide +kernel
  | some 3 => decide +kernel
  | some (n + 4) => exact (show decide (V.str (word 4) = V.str (Str.ofString "done")) = false by decide +kernel)
/-! ### the law -/
theorem ev_call5 {σ : L2.St} {H : Hp} {ta tb tc td te : TE} {x y z v : V} {sp : Sp} {E : XK} {xs ys : List V} (ha : Ev ta σ H x) (hb : ∀ H1, Ex H H1 → EvL tb σ H1 xs) (hc : ∀ H1, Ex H H1 → Ev tc σ H1 y) (hd : ∀ H1, Ex H H1 → EvL td σ H1 ys) (he : ∀ H1, Ex H H1 → Ev te σ H1 z)
    (hs : ∀ p r H1, Ex H H1 → H1 p = some (.lst xs) → H1 r = some (.lst ys) → SpV sp [x, .ref p, y, .ref r, z] H1 v) : Ev (tCall sp [] E (tCons ta (tCons tb (tCons tc (tCons td (tCons te tNil)))))) σ H v := fun H1 e Q q =>
  ha H1 e _ fun H2 e2 => hb H2 (e.trans e2) H2 (Ex.refl H2) _ fun p H3 _ e3 hp => hc H3 ((e.trans e2).trans e3) H3 (Ex.refl H3) _ fun H4 e4 => hd H4 (((e.trans e2).trans e3).trans e4) H4 (Ex.refl H4) _ fun r H5 _ e5 hr =>
    he H5 ((((e.trans e2).trans e3).trans e4).trans e5) H5 (Ex.refl H5) _ fun H6 e6 => hs p r H6 (((((e.trans e2).trans e3).trans e4).trans e5).trans e6) (((e4.trans e5).trans e6) _ _ hp) (e6 _ _ hr) H6 (Ex.refl H6) Q (fun H7 e7 => q H7 (((((e2.trans e3).trans e4).trans e5).trans e6).trans e7)) E
theorem v_triedW {w : Nat} {a b : Addr} {m q : List Int} {l y : Int} {H : Hp} (ha : SqL K H a (m.map V.int)) (hz : m.length ≤ 1000) (hb : SqL K H b (q.map V.int)) (hw : w < 9) : SpV (spTried K) [.int (w : Int), .ref a, .int l, .ref b, .int y] H (.str (wordO (outc w l m q y))) :=
  fun H1 e Q k E => ⟨w, a, b, m, q, l, y, rfl, ex_l e ha, hz, ex_l e hb, hw, k⟩
theorem q_callE {σ : L2.St} {H : Hp} {D : Ends} {tz : TS} {sp : Sp} {vs : List V} {ta : TA} {E : XK} {r : Nat} (h : EvA ta σ H vs) (k : ∀ H2, Ex H H2 → sp (vs ++ []) H2 (fun v H3 => tz D (σ.set r (some v)) H3) E) : tSeq (tAsg (tCall sp [] E ta) (gName r)) tz D σ H := h H (Ex.refl H) _ fun H2 e2 => k H2 e2
def dW (a b c : Option Nat) : List V := [.str (wordO a), .str (wordO b), .str (wordO c)]
theorem things12 (c : Int) {L : Nat} (h : L ≤ 2) : 0 < ([8, 5, 3] : List Int).getD L 0 ∧ ∃ n : Nat, (n : Int) = 1 + c % ([8, 5, 3] : List Int).getD L 0 ∧ 1 ≤ n ∧ n ≤ 8 := by
  have h3 : L = 0 ∨ L = 1 ∨ L = 2 := by omega
  rcases h3 with rfl | rfl | rfl
  · exact ⟨by decide, (1 + c % 8).toNat, by show (_ : Int) = 1 + c % 8; omega, by omega, by omega⟩
  · exact ⟨by decide, (1 + c % 5).toNat, by show (_ : Int) = 1 + c % 5; omega, by omega, by omega⟩
  · exact ⟨by decide, (1 + c % 3).toNat, by show (_ : Int) = 1 + c % 3; omega, by omega, by omega⟩
theorem badN_dec (n : Nat) (h : n ≤ 9) : inV (.int (n : Int)) (([0, 9] : List Int).map V.int) = decide (n < 1 ∨ 8 < n) := by
  rw [inV_int]
  unfold hasI
  rw [decide_eq_decide]
  simp
  omega
def spLaw (K : PySem.W.Frag) : Sp := fun vs H Q _ => ∃ (a : Addr) (ns : List Int), vs = [.ref a] ∧ SqL K H a (ns.map V.int) ∧ ns.length ≤ 63 ∧ ∀ H', Q (.bl true) H'
theorem ok_law {ea : EA} {f : Addr} {fd : FuncData} (F : Fun K "law" "law" s_law f fd) (T : Txt K mg) (TX : Tx K mg ea) : FnOk P w K mg base CX0 64 f fd ["script"] (spLaw K) := by
  have g__law_cell_at := ok_cell (P := P) (w := w) (base := base) T
  have g__law_asked_by := ok_askedby (P := P) (w := w) (base := base) T
  have g__law_bad_question := ok_badquestion (P := P) (w := w) (base := base) T
  have g__law_bad_marks := ok_badmarks (P := P) (w := w) (base := base) T
  have g__law_tried := ok_tried (P := P) (w := w) (base := base) T TX
  refine F.ok sc_law (fun vs H Q E h => ?_) (fun cdv A outer s H vs Q E hr h => ?_)
  · obtain ⟨a, ns, rfl, _⟩ := h
    rfl
  obtain ⟨a, ns, rfl, hS, h63, q⟩ := h
  obtain ⟨L, hL⟩ : ∃ L : Nat, (L : Int) = cl ns 0 % 3 := ⟨(cl ns 0 % 3).toNat, by omega⟩
  have hL2 : L ≤ 2 := by omega
  obtain ⟨hs0, n, hn, n1, n8⟩ := things12 (cl ns 1) hL2
  refine ⟨_, (pss_cons (ps_set (i := 1) sc_law.nd rfl (Or.inl rfl) (pe_op op_mod (cg g__law_cell_at (hr.mono (by first | decide | omega)) (pa_cons (pv 0) (pa_cons pe_int pa_nil))) (pe_op op_pow pe_int pe_int)))
      (pss_cons (ps_set (i := 2) sc_law.nd rfl (Or.inr rfl) (pe_op op_mod (cg g__law_cell_at (hr.mono (by first | decide | omega)) (pa_cons (pv 0) (pa_cons pe_int pa_nil))) pe_int))
      (pss_cons (ps_set (i := 3) sc_law.nd rfl (Or.inl rfl) (pe_op op_add pe_int (pe_op op_mod (cg g__law_cell_at (hr.mono (by first | decide | omega)) (pa_cons (pv 0) (pa_cons pe_int pa_nil))) (pe_ix (kix_list (K := K) rfl) (pe_lst (pa_cons pe_int (pa_cons pe_int (pa_cons pe_int pa_nil)))) (pv 2) (fun _ _ => rfl)))))
      (pss_cons (ps_setLc (i := 4) (own := [("k", 12)]) (by rfl) sc_law.nd rfl rfl (sw_true rfl rfl rfl (by decide +kernel)) (pi_range1 (by rfl) T.b_range (pa_cons (pv 3) pa_nil)) (blkOk_by (own := [("k", 12)]) (N := n_law) (sc := defScope s_law) (by decide +kernel)) (fun _ _ _ _ _ => (pg_name (i := 12) sc_law.nd rfl (Or.inl rfl))) (fun _ _ _ _ _ => pts_nil) (fun _ _ _ _ _ => (pe_op op_mod (cg g__law_cell_at (hr.mono (by first | decide | omega)) (pa_cons (pv 0) (pa_cons (pe_op op_add pe_int (pv 12)) pa_nil))) (pe_op op_add (pv 2) pe_int))))
      (pss_cons (ps_set (i := 5) sc_law.nd rfl (Or.inl rfl) (cg g__law_asked_by (hr.mono (by first | decide | omega)) (pa_cons (cg g__law_cell_at (hr.mono (by first | decide | omega)) (pa_cons (pv 0) (pa_cons pe_int pa_nil))) (pa_cons (pv 3) pa_nil))))
      (pss_cons (ps_set (i := 6) sc_law.nd rfl (Or.inl rfl) (pe_lst (pa_cons pe_str (pa_cons pe_str (pa_cons pe_str pa_nil)))))
      (pss_cons (ps_set (i := 7) sc_law.nd rfl (Or.inl rfl) pe_str)
      (C8.pss_cut (ps_if (pt_cmpR op_eq (pe_op op_mod (cg g__law_cell_at (hr.mono (by first | decide | omega)) (pa_cons (pv 0) (pa_cons pe_int pa_nil))) pe_int) pe_int (nomark _)) (pss_cons (ps_set (i := 5) sc_law.nd rfl (Or.inl rfl) (cg g__law_bad_question (hr.mono (by first | decide | omega)) (pa_cons (pv 5) (pa_cons (pv 3) (pa_cons (pe_op op_mod (cg g__law_cell_at (hr.mono (by first | decide | omega)) (pa_cons (pv 0) (pa_cons pe_int pa_nil))) pe_int) (pa_cons (cg g__law_cell_at (hr.mono (by first | decide | omega)) (pa_cons (pv 0) (pa_cons pe_int pa_nil))) pa_nil))))))
      (pss_one (ps_asg pe_str (pg_sub (pv 6) pe_int set_list)))) pss_nil)
      (C8.pss_cut (ps_if (pt_cmpR op_eq (pe_op op_mod (cg g__law_cell_at (hr.mono (by first | decide | omega)) (pa_cons (pv 0) (pa_cons pe_int pa_nil))) pe_int) pe_int (nomark _)) (pss_cons (ps_set (i := 4) sc_law.nd rfl (Or.inl rfl) (cg g__law_bad_marks (hr.mono (by first | decide | omega)) (pa_cons (pv 4) (pa_cons (pv 2) (pa_cons (pe_op op_mod (cg g__law_cell_at (hr.mono (by first | decide | omega)) (pa_cons (pv 0) (pa_cons pe_int pa_nil))) pe_int) (pa_cons (cg g__law_cell_at (hr.mono (by first | decide | omega)) (pa_cons (pv 0) (pa_cons pe_int pa_nil))) pa_nil))))))
      (pss_cons (ps_set (i := 6) sc_law.nd rfl (Or.inl rfl) (pe_lst (pa_cons pe_str (pa_cons pe_str (pa_cons pe_str pa_nil)))))
      (pss_one (ps_set (i := 7) sc_law.nd rfl (Or.inl rfl) (pe_ifExp (pt_cmpR (kop_in (K := K) rfl) (pe_callB (kc_len (K := K) rfl) (by rfl) T.b_len (by decide +kernel) (pa_cons (pv 4) pa_nil)) (pe_tup (pa_cons pe_int (pa_cons pe_int pa_nil))) (by rfl)) pe_str pe_str))))) pss_nil)
      (pss_cons (ps_set (i := 8) sc_law.nd rfl (Or.inl rfl) (pe_op op_mod (cg g__law_cell_at (hr.mono (by first | decide | omega)) (pa_cons (pv 0) (pa_cons pe_int pa_nil))) pe_int))
      (pss_cons (ps_set (i := 9) sc_law.nd rfl (Or.inl rfl) pe_str)
      (C8.pss_cut (ps_if (pt_cmpR op_eq (pe_op op_mod (cg g__law_cell_at (hr.mono (by first | decide | omega)) (pa_cons (pv 0) (pa_cons pe_int pa_nil))) pe_int) pe_int (nomark _)) (pss_cons (ps_set (i := 8) sc_law.nd rfl (Or.inl rfl) (pe_ix (kix_list (K := K) rfl) (pe_lst (pa_cons (pe_op op_sub (pe_un un_neg pe_int) (pv 1)) (pa_cons (pe_op op_add pe_int (pv 1)) pa_nil))) (pe_op op_mod (pe_op op_fdiv (cg g__law_cell_at (hr.mono (by first | decide | omega)) (pa_cons (pv 0) (pa_cons pe_int pa_nil))) pe_int) pe_int) (fun _ _ => rfl)))
      (pss_one (ps_set (i := 9) sc_law.nd rfl (Or.inl rfl) pe_str))) pss_nil)
      (C8.pss_cut (ps_if (pt_cmpR op_eq (pe_op op_mod (cg g__law_cell_at (hr.mono (by first | decide | omega)) (pa_cons (pv 0) (pa_cons pe_int pa_nil))) pe_int) pe_int (nomark _)) (pss_cons (ps_set (i := 2) sc_law.nd rfl (Or.inr rfl) (pe_ix (kix_list (K := K) rfl) (pe_lst (pa_cons (pe_un un_neg pe_int) (pa_cons pe_int (pa_cons (pe_op op_sub (pe_un un_neg pe_int) (pv 1)) (pa_cons (pe_op op_add pe_int (pv 1)) pa_nil))))) (pe_op op_mod (cg g__law_cell_at (hr.mono (by first | decide | omega)) (pa_cons (pv 0) (pa_cons pe_int pa_nil))) pe_int) (fun _ _ => rfl)))
      (pss_one (ps_set (i := 6) sc_law.nd rfl (Or.inl rfl) (pe_lst (pa_cons pe_str (pa_cons pe_str (pa_cons pe_str pa_nil))))))) pss_nil)
      (pss_cons (ps_for PassesOwn.never rfl (pi_range1 (by rfl) T.b_range (pa_cons pe_int pa_nil)) (pg_name (i := 10) sc_law.nd rfl (Or.inl rfl)) (pss_cons (ps_set (i := 11) sc_law.nd rfl (Or.inl rfl) (pe_ifExp (pt_cmpR op_lt (pv 10) pe_int (nomark _)) (pe_ix (kix_list (K := K) rfl) (pv 6) pe_int (fun _ _ => rfl)) (pe_ix (kix_list (K := K) rfl) (pv 6) pe_int (fun _ _ => rfl))))
      (pss_cons (ps_if (PW.pt (pw_and (pt_cmpR op_eq (pv 10) pe_int (nomark _)) (pw_and1 (pt_cmpR op_eq (pv 11) pe_str (nomark _))))) (pss_one (ps_set (i := 11) sc_law.nd rfl (Or.inl rfl) (pv 9))) pss_nil)
      (pss_cons (ps_if (pt_cmpR op_eq (pv 10) pe_int (nomark _)) (pss_one (ps_set (i := 11) sc_law.nd rfl (Or.inl rfl) (pe_ifExp (pt_cmpR op_ne (pe_ix (kix_list (K := K) rfl) (pv 6) pe_int (fun _ _ => rfl)) pe_str (nomark _)) (pe_ix (kix_list (K := K) rfl) (pv 6) pe_int (fun _ _ => rfl)) (pv 7)))) pss_nil)
      (pss_cons (ps_if (PW.pt (pw_and (pt_cmpR op_eq (pv 10) pe_int (nomark _)) (pw_and (pt_cmpR op_eq (pv 11) pe_str (nomark _)) (pw_and1 (pt_cmpR op_eq (pe_op op_mod (cg g__law_cell_at (hr.mono (by first | decide | omega)) (pa_cons (pv 0) (pa_cons pe_int pa_nil))) pe_int) pe_int (nomark _)))))) (pss_one (ps_set (i := 11) sc_law.nd rfl (Or.inl rfl) pe_str)) pss_nil)
      (pss_cons (ps_if (pt_cmpR op_eq (pv 10) pe_int (nomark _)) (pss_one (ps_set (i := 11) sc_law.nd rfl (Or.inl rfl) (pv 7))) pss_nil)
      (pss_one (ps_if (pt_cmpR op_ne (cg g__law_tried (hr.mono (by first | decide | omega)) (pa_cons (pv 10) (pa_cons (pe_callTy (kc_list (K := K) rfl) (by rfl) T.b_list (by decide +kernel) (pa_cons (pv 4) pa_nil)) (pa_cons (pv 2) (pa_cons (pe_callTy (kc_list (K := K) rfl) (by rfl) T.b_list (by decide +kernel) (pa_cons (pv 5) pa_nil)) (pa_cons (pv 8) pa_nil)))))) (pv 11) (nomark _)) (pss_one (ps_ret pe_bl)) pss_nil))))))))
      (pss_one (ps_ret pe_bl)))))))))))))))), ?_⟩
  -- far
  have hfar := Int.emod_nonneg (cl ns 20) (Int.ne_of_gt int_20)
  refine q_asg (v := .int (cl ns 20 % 10 ^ (20 : Int).toNat)) (ev_op (ev_call (ea_cons (ev_var rfl) (ea_cons ev_c ea_nil)) (v_cell hS (by omega))) (ev_op ev_c ev_c (rv_I (show (0 : Int) ≤ 20 ∧ (20 : Int) ≤ 1000000 ∧ (10 : Int).natAbs < 2 ^ 64 by decide))) (rv_I int_20)) fun H1 e1 => ?_
  generalize cl ns 20 % 10 ^ (20 : Int).toNat = far at hfar
  -- lies, things
  refine q_asg (v := .int (L : Int)) (ev_is (ev_op (ev_call (ea_cons (ev_var rfl) (ea_cons ev_c ea_nil)) (v_cell (ex_l e1 hS) (by omega))) ev_c (rv_I (by show (0 : Int) < 3; decide))) (by rw [hL])) fun H2 e2 => ?_
  have e2 := e1.trans e2
  refine q_asg (v := .int (n : Int)) (ev_is (ev_op ev_c (ev_op (ev_call (ea_cons (ev_var rfl) (ea_cons ev_c ea_nil)) (v_cell (ex_l e2 hS) (by omega))) (ev_opL1 (y := .int (L : Int)) (xs := ([8, 5, 3] : List Int).map V.int) (el_lst (ea_cons ev_c (ea_cons ev_c (ea_cons ev_c ea_nil))) (by show 3 ≤ 100000; decide)) (fun G eG => ev_var rfl) fun p G hp _ => rv_ixL (sq_of hp) (at_int (by show L < 3; omega))) (rv_I (by show (0 : Int) < _; exact hs0))) rv_I0) (by rw [hn])) fun H3 e3 => ?_
  have e3 := e2.trans e3
  -- marks
  refine q_asgL (el_cI (fun i => cl ns (2 + (i : Int)) % ((L : Int) + 2)) (ea_cons (ev_var rfl) ea_nil) (by omega) (fun _ => rfl) (fun i G eG hi => ev_op (ev_call (ea_cons (ev_var rfl) (ea_cons (ev_op ev_c (ev_var rfl) rv_I0) ea_nil)) (v_cell (ex_l (e3.trans eG) hS) (by omega))) (ev_op (ev_var rfl) ev_c rv_I0) (rv_I (by show (0 : Int) < (L : Int) + 2; omega)))) fun pm H4 npm e4 hpm => ?_
  rw [Int.toNat_natCast] at hpm
  have hml : ((List.range n).map fun (i : Nat) => cl ns (2 + (i : Int)) % ((L : Int) + 2)).length = n := by rw [len_map, List.length_range]
  have hok : MOk L ((List.range n).map fun (i : Nat) => cl ns (2 + (i : Int)) % ((L : Int) + 2)) := ⟨hL2, by omega, fun x hx => by
    obtain ⟨i, _, rfl⟩ := List.mem_map.mp hx
    have h0 := Int.emod_nonneg (cl ns (2 + (i : Int))) (show (L : Int) + 2 ≠ 0 by omega)
    have h1 := Int.emod_lt_of_pos (cl ns (2 + (i : Int))) (show (0 : Int) < (L : Int) + 2 by omega)
    omega⟩
  generalize ((List.range n).map fun (i : Nat) => cl ns (2 + (i : Int)) % ((L : Int) + 2)) = m at hpm hml hok
  have e4 := e3.trans e4
  -- asked
  refine q_asgL (el_call (ea_cons (ev_call (ea_cons (ev_var rfl) (ea_cons ev_c ea_nil)) (v_cell (ex_l e4 hS) (by omega))) (ea_cons (ev_var rfl) ea_nil)) (l_askedby (by omega))) fun pq H5 npq e5 hpq => ?_
  have hR : Rise (-1) (askL (cl ns 11) n) (n : Int) := askL_rise _ _
  have hql := askL_len (cl ns 11) n
  generalize askL (cl ns 11) n = q0 at hpq hR hql
  have hpm5 := e5 _ _ hpm
  have e5 := e4.trans e5
  -- due, size
  refine q_asgL (xs := dW none none none) (el_lst (ea_cons ev_c (ea_cons ev_c (ea_cons ev_c ea_nil))) (by show 3 ≤ 100000; decide)) fun pd H6 npd e6 hpd => ?_
  refine q_asg (v := .str (wordO none)) ev_c fun H7 e7 => ?_
  have e67 := e6.trans e7
  have hpd7 := e7 _ _ hpd
  have hpq7 := e67 _ _ hpq
  have e7 := e5.trans e67
  -- a bad question
  generalize hbq : decide (cl ns 12 % 4 = 1) = bq
  refine ⟨fun σ' H' => ∃ (pq : Addr) (q1 : List Int), σ' = [some (.ref a), some (.int far), some (.int (L : Int)), some (.int (n : Int)), some (.ref pm), some (.ref pq), some (.ref pd), some (.str (wordO none)), none, none, none, none, none] ∧ Ex H5 H' ∧ H' pq = some (.lst (q1.map V.int)) ∧ q1.length ≤ 20 ∧ (Rise (-1) q1 (n : Int) ↔ bq = false) ∧ H' pd = some (.lst (dW none none (dD2 false false bq))), ?_, fun σ' H8 wi => ?_⟩
  · refine s_when (b := bq) (et_is (et_test (ev_op (ev_op (ev_call (ea_cons (ev_var rfl) (ea_cons ev_c ea_nil)) (v_cell (ex_l e7 hS) (by omega))) ev_c (rv_I (by show (0 : Int) < 4; decide))) ev_c rv_eqI)) hbq) (fun hb H8 e8 => ?_) (fun hb H8 e8 => ⟨pq, q0, rfl, e67.trans e8, e8 _ _ hpq7, by omega, ⟨fun _ => hb, fun _ => hR⟩, by rw [hb]; exact e8 _ _ hpd7⟩)
    have e78 := e7.trans e8
    obtain ⟨kd, hkd⟩ : ∃ kd : Nat, (kd : Int) = cl ns 13 % 4 := ⟨(cl ns 13 % 4).toNat, by omega⟩
    refine q_callE (vs := [.ref pq, .int (n : Int), .int (kd : Int), .int (cl ns 14)]) (ea_cons (ev_var rfl) (ea_cons (ev_var rfl) (ea_cons (ev_is (ev_op (ev_call (ea_cons (ev_var rfl) (ea_cons ev_c ea_nil)) (v_cell (ex_l e78 hS) (by omega))) ev_c (rv_I (by show (0 : Int) < 4; decide))) (by rw [← hkd])) (ea_cons (ev_call (ea_cons (ev_var rfl) (ea_cons ev_c ea_nil)) (v_cell (ex_l e78 hS) (by omega))) ea_nil)))) fun H9 e9 => ?_
    refine ⟨pq, q0, n, kd, cl ns 14, rfl, (e8.trans e9) _ _ hpq7, by omega, hR, by omega, fun q1 hl1 hnr p H10 np e10 hp => ?_⟩
    have hpd9 := (e8.trans e9) _ _ hpd7
    refine s_setL (j := 2) (v := .str (wordO (some 2))) (e10 _ _ hpd9) ev_c (ev_var rfl) ev_c (by show 2 < 3; decide) fun H11 e11 => ?_
    refine ⟨p, q1, rfl, Ex.mut ((((e67.trans e8).trans e9).trans e10).trans e11) npd, upd_other (e11 _ _ hp) (Ne.symm (ne_of_none hpd9 np)), hl1, ⟨fun z => absurd z hnr, fun z => by rw [hb] at z; cases z⟩, ?_⟩
    rw [upd_same, hb]
    rfl
  obtain ⟨pq, q1, rfl, e8, hpq8, hql1, hRq, hpd8⟩ := wi
  have hpm8 := e8 _ _ hpm5
  have e58 := e5.trans e8
  clear hpq7 hpd7 hpq
  -- bad marks
  generalize hbm : decide (cl ns 15 % 4 = 1) = bm
  refine ⟨fun σ' H' => ∃ (pm pd : Addr) (m1 : List Int) (bs : Bool), σ' = [some (.ref a), some (.int far), some (.int (L : Int)), some (.int (n : Int)), some (.ref pm), some (.ref pq), some (.ref pd), some (.str (wordO (dSZ bs))), none, none, none, none, none] ∧ Ex H8 H' ∧ H' pm = some (.lst (m1.map V.int)) ∧ m1.length ≤ 9 ∧ (badM (L : Int) m1 ↔ bm = true) ∧ (badN m1.length ↔ bs = true) ∧ (bs = true → bm = true) ∧ (bs = false → m1.length = n) ∧ H' pd = some (.lst (dW none (dD1 false bm) (dD2 false bm bq))), ?_, fun σ' H9 wi => ?_⟩
  · refine s_when (b := bm) (et_is (et_test (ev_op (ev_op (ev_call (ea_cons (ev_var rfl) (ea_cons ev_c ea_nil)) (v_cell (ex_l e58 hS) (by omega))) ev_c (rv_I (by show (0 : Int) < 4; decide))) ev_c rv_eqI)) hbm) (fun hb H9 e9 => ?_) (fun hb H9 e9 => ⟨pm, pd, m, false, rfl, e9, e9 _ _ hpm8, by omega, ⟨fun z => absurd z fun z => ?_, fun z => by rw [hb] at z; cases z⟩, ⟨fun z => by unfold badN at z; omega, fun z => by cases z⟩, (fun z => nomatch z), fun _ => hml, by rw [hb]; exact e9 _ _ hpd8⟩)
    · have e89 := e58.trans e9
      obtain ⟨kd, hkd⟩ : ∃ kd : Nat, (kd : Int) = cl ns 16 % 5 := ⟨(cl ns 16 % 5).toNat, by omega⟩
      refine q_callE (vs := [.ref pm, .int (L : Int), .int (kd : Int), .int (cl ns 17)]) (ea_cons (ev_var rfl) (ea_cons (ev_var rfl) (ea_cons (ev_is (ev_op (ev_call (ea_cons (ev_var rfl) (ea_cons ev_c ea_nil)) (v_cell (ex_l e89 hS) (by omega))) ev_c (rv_I (by show (0 : Int) < 5; decide))) (by rw [← hkd])) (ea_cons (ev_call (ea_cons (ev_var rfl) (ea_cons ev_c ea_nil)) (v_cell (ex_l e89 hS) (by omega))) ea_nil)))) fun H10 e10 => ?_
      refine ⟨pm, m, L, kd, cl ns 17, rfl, sq_of ((e9.trans e10) _ _ hpm8), by omega, by omega, by omega, fun m1 hl1 hbad hlen p H11 np e11 hp => ?_⟩
      refine q_asgL (xs := dW none (some 1) (some 1)) (el_lst (ea_cons ev_c (ea_cons ev_c (ea_cons ev_c ea_nil))) (by show 3 ≤ 100000; decide)) fun pd2 H12 np2 e12 hp2 => ?_
      have hp12 := e12 _ _ hp
      refine s_asg (v := .str (wordO (dSZ (decide (m1.length < 1 ∨ 8 < m1.length))))) (ev_if (b := decide (m1.length < 1 ∨ 8 < m1.length)) (et_is (et_test (ev_inU (xs := ([0, 9] : List Int).map V.int) (ev_is (ev_len (ev_var rfl) (sq_of hp12)) (by rw [len_map])) (eu_tup (ea_cons ev_c (ea_cons ev_c ea_nil)) (by show 2 ≤ 100000; decide)) rfl rfl)) (badN_dec _ hl1)) (fun z => by rw [z]; exact ev_c) (fun z => by rw [z]; exact ev_c)) fun H13 e13 => ?_
      have e913 := ((((e9.trans e10).trans e11).trans e12).trans e13)
      refine ⟨p, pd2, m1, decide (m1.length < 1 ∨ 8 < m1.length), rfl, e913, e13 _ _ hp12, hl1, ⟨fun _ => hb, fun _ => hbad⟩, ⟨fun z => decide_eq_true (show m1.length < 1 ∨ 8 < m1.length from z), fun z => (of_decide_eq_true z : m1.length < 1 ∨ 8 < m1.length)⟩, fun _ => hb, fun z => ?_, ?_⟩
      · have z := of_decide_eq_false z
        rcases hlen with h | h
        · exact absurd h z
        · omega
      · rw [hb]
        exact e13 _ _ hp2
    · rcases z with z | ⟨x, hx, hx2⟩
      · unfold badN at z
        omega
      · have := hok.mks x hx
        omega
  obtain ⟨pm, pd, m1, bs, rfl, e9, hpm9, hl1, hMb, hNb, hsm, hmn, hpd9⟩ := wi
  have hpq9 := e9 _ _ hpq8
  have e9 := e58.trans e9
  clear hpm8 hpd8 hpm5 hpm hpd npd npm npq
  -- many
  obtain ⟨y0, hy0⟩ : ∃ y0 : Int, y0 = cl ns 21 % 101 := ⟨_, rfl⟩
  have hy1 : 0 ≤ y0 ∧ y0 ≤ 100 := by omega
  refine q_asg (v := .int y0) (ev_is (ev_op (ev_call (ea_cons (ev_var rfl) (ea_cons ev_c ea_nil)) (v_cell (ex_l e9 hS) (by omega))) ev_c (rv_I (by show (0 : Int) < 101; decide))) (by rw [hy0])) fun H10 e10 => ?_
  refine q_asg (v := .str (wordO none)) ev_c fun H11 e11 => ?_
  have e911 := e10.trans e11
  have e11 := e9.trans e911
  generalize hbc : decide (cl ns 22 % 3 = 1) = bc
  refine ⟨fun σ' H' => ∃ y : Int, σ' = [some (.ref a), some (.int far), some (.int (L : Int)), some (.int (n : Int)), some (.ref pm), some (.ref pq), some (.ref pd), some (.str (wordO (dSZ bs))), some (.int y), some (.str (wordO (dCD bc))), none, none, none] ∧ Ex H9 H' ∧ ((y < 0 ∨ 100 < y) ↔ bc = true), ?_, fun σ' H12 wi => ?_⟩
  · refine s_when (b := bc) (et_is (et_test (ev_op (ev_op (ev_call (ea_cons (ev_var rfl) (ea_cons ev_c ea_nil)) (v_cell (ex_l e11 hS) (by omega))) ev_c (rv_I (by show (0 : Int) < 3; decide))) ev_c rv_eqI)) hbc) (fun hb H12 e12 => ?_) (fun hb H12 e12 => ⟨y0, by rw [hb]; rfl, e911.trans e12, ⟨fun z => by omega, fun z => by rw [hb] at z; cases z⟩⟩)
    have e112 := e11.trans e12
    obtain ⟨k, hk⟩ : ∃ k : Nat, (k : Int) = cl ns 22 / 3 % 2 := ⟨(cl ns 22 / 3 % 2).toNat, by omega⟩
    have k2 : k < 2 := by omega
    refine q_asg (v := .int (([-1 - far, 101 + far] : List Int).getD k 0)) (ev_opL1 (y := .int (k : Int)) (xs := ([-1 - far, 101 + far] : List Int).map V.int) (el_lst (ea_cons (ev_op (ev_un ev_c ru_neg) (ev_var rfl) rv_I0) (ea_cons (ev_op ev_c (ev_var rfl) rv_I0) ea_nil)) (by show 2 ≤ 100000; decide)) (fun G eG => ev_is (ev_op (ev_op (ev_call (ea_cons (ev_var rfl) (ea_cons ev_c ea_nil)) (v_cell (ex_l (e112.trans eG) hS) (by omega))) ev_c (rv_I (show (0 : Int) < 3 ∧ (3 : Int) < 1073741824 by decide))) ev_c (rv_I (by show (0 : Int) < 2; decide))) (by rw [← hk])) fun p G hp _ => rv_ixL (sq_of hp) (at_int (by show k < 2; omega))) fun H13 e13 => ?_
    refine s_asg (v := .str (wordO (some 3))) ev_c fun H14 e14 => ⟨_, by rw [hb]; rfl, ((e911.trans e12).trans e13).trans e14, ⟨fun _ => hb, fun _ => ?_⟩⟩
    have h2 : k = 0 ∨ k = 1 := by omega
    rcases h2 with rfl | rfl
    · exact .inl (by show -1 - far < 0; omega)
    · exact .inr (by show 100 < 101 + far; omega)
  obtain ⟨y, rfl, e12, hyb⟩ := wi
  have hpq12 := e12 _ _ hpq9
  have hpm12 := e12 _ _ hpm9
  have hpd12 := e12 _ _ hpd9
  have e12 := e9.trans e12
  -- bad lies
  generalize hbl : decide (cl ns 18 % 4 = 1) = bl
  refine ⟨fun σ' H' => ∃ (l : Int) (pd : Addr), σ' = [some (.ref a), some (.int far), some (.int l), some (.int (n : Int)), some (.ref pm), some (.ref pq), some (.ref pd), some (.str (wordO (dSZ bs))), some (.int y), some (.str (wordO (dCD bc))), none, none, none] ∧ Ex H12 H' ∧ (badL l ↔ bl = true) ∧ (bl = false → l = (L : Int)) ∧ H' pd = some (.lst (dW (dD0 bl) (dD1 bl bm) (dD2 bl bm bq))), ?_, fun σ' H13 wi => ?_⟩
  · refine s_when (b := bl) (et_is (et_test (ev_op (ev_op (ev_call (ea_cons (ev_var rfl) (ea_cons ev_c ea_nil)) (v_cell (ex_l e12 hS) (by omega))) ev_c (rv_I (by show (0 : Int) < 4; decide))) ev_c rv_eqI)) hbl) (fun hb H13 e13 => ?_) (fun hb H13 e13 => ⟨L, pd, rfl, e13, ⟨fun z => by unfold badL at z; omega, fun z => by rw [hb] at z; cases z⟩, fun _ => rfl, by rw [hb]; exact e13 _ _ hpd12⟩)
    have e113 := e12.trans e13
    obtain ⟨k, hk⟩ : ∃ k : Nat, (k : Int) = cl ns 19 % 4 := ⟨(cl ns 19 % 4).toNat, by omega⟩
    have k4 : k < 4 := by omega
    refine q_asg (v := .int (([-1, 3, -1 - far, 3 + far] : List Int).getD k 0)) (ev_opL1 (y := .int (k : Int)) (xs := ([-1, 3, -1 - far, 3 + far] : List Int).map V.int) (el_lst (ea_cons (ev_un ev_c ru_neg) (ea_cons ev_c (ea_cons (ev_op (ev_un ev_c ru_neg) (ev_var rfl) rv_I0) (ea_cons (ev_op ev_c (ev_var rfl) rv_I0) ea_nil)))) (by show 4 ≤ 100000; decide)) (fun G eG => ev_is (ev_op (ev_call (ea_cons (ev_var rfl) (ea_cons ev_c ea_nil)) (v_cell (ex_l (e113.trans eG) hS) (by omega))) ev_c (rv_I (by show (0 : Int) < 4; decide))) (by rw [← hk])) fun p G hp _ => rv_ixL (sq_of hp) (at_int (by show k < 4; omega))) fun H14 e14 => ?_
    refine s_asgL (xs := dW (some 0) (some 0) (some 0)) (el_lst (ea_cons ev_c (ea_cons ev_c (ea_cons ev_c ea_nil))) (by show 3 ≤ 100000; decide)) fun pd2 H15 np2 e15 hp2 => ⟨_, pd2, rfl, (e13.trans e14).trans e15, ⟨fun _ => hb, fun _ => ?_⟩, (fun z => by rw [hb] at z; cases z), by rw [hb]; exact hp2⟩
    have h4 : k = 0 ∨ k = 1 ∨ k = 2 ∨ k = 3 := by omega
    unfold badL
    rcases h4 with rfl | rfl | rfl | rfl
    · exact .inl (by show (-1 : Int) < 0; decide)
    · exact .inr (by show (2 : Int) < 3; decide)
    · exact .inl (by show -1 - far < 0; omega)
    · exact .inr (by show 2 < 3 + far; omega)
  obtain ⟨l, pd, rfl, e13, hLb, hlL, hpd13⟩ := wi
  have hpq13 := e13 _ _ hpq12
  have hpm13 := e13 _ _ hpm12
  have e13 := e12.trans e13
  clear hpd12 hpd9 hpq12 hpm12 hpq9 hpm9 hpq8
  -- each def
  refine q_forR1 (n := 9) (ea_cons ev_c ea_nil) (by omega) (fun i σ' H' => ∃ x10 x11, σ' = [some (.ref a), some (.int far), some (.int l), some (.int (n : Int)), some (.ref pm), some (.ref pq), some (.ref pd), some (.str (wordO (dSZ bs))), some (.int y), some (.str (wordO (dCD bc))), x10, x11, none] ∧ Ex H13 H')
    (fun H14 e14 => ⟨none, none, rfl, e14⟩) (fun i σ' H' hi p => ?_) (fun σ' H' p => ?_)
  · obtain ⟨x10, x11, rfl, e⟩ := p
    have hi9 : i < 9 := by omega
    have isI : ∀ (k : Nat), decide ((i : Int) = (k : Int)) = decide (i = k) := fun k => by rw [decide_eq_decide]; omega
    have dG : ∀ G, Ex H' G → SqL K G pd (dW (dD0 bl) (dD1 bl bm) (dD2 bl bm bq)) := fun G eG => sq_of ((e.trans eG) _ _ hpd13)
    -- wanted
    refine q_asg (v := .str (wordO (wW0 bl bm bq i))) (ev_if (b := decide (i < 5)) (et_is (et_test (ev_op (ev_var rfl) ev_c rv_I0)) (by rw [decide_eq_decide]; omega)) (fun hb => ev_is (ev_op (ev_var rfl) ev_c (rv_ixL (v := .str (wordO (dD1 bl bm))) (dG _ (Ex.refl _)) rfl)) (by unfold wW0; rw [if_pos (of_decide_eq_true hb)])) (fun hb => ev_is (ev_op (ev_var rfl) ev_c (rv_ixL (v := .str (wordO (dD2 bl bm bq))) (dG _ (Ex.refl _)) rfl)) (by unfold wW0; rw [if_neg (of_decide_eq_false hb)]))) fun G1 f1 => ?_
    refine q_ifAsg (i := 11) (v := .str (wordO (wW1 bl bm bq bc i))) (b := decide (i = 4 ∧ wW0 bl bm bq i = none)) (et_is (et_and (et_is (et_test (ev_op (ev_var rfl) ev_c rv_eqI)) (isI 4)) fun _ => et_is (et_test (ev_op (ev_var rfl) ev_c (rv_eq rfl))) (word_done _)) (Bool.decide_and _ _).symm) (fun hb => ev_is (ev_var rfl) (by unfold wW1; rw [if_pos (of_decide_eq_true hb)])) (fun hb => by unfold wW1; rw [if_neg (of_decide_eq_false hb)]; rfl) fun G2 f2 => ?_
    have f2 := f1.trans f2
    refine q_ifAsg (i := 11) (v := .str (wordO (wW2 bl bm bq bc bs i))) (b := decide (i = 7)) (et_is (et_test (ev_op (ev_var rfl) ev_c rv_eqI)) (isI 7)) (fun hb => ev_if (b := !decide (dD0 bl = none)) (et_is (et_test (ev_op (ev_op (ev_var rfl) ev_c (rv_ixL (v := .str (wordO (dD0 bl))) (dG _ f2) rfl)) ev_c (rv_ne rfl))) (by rw [word_done])) (fun hc => ev_is (ev_op (ev_var rfl) ev_c (rv_ixL (v := .str (wordO (dD0 bl))) (dG _ f2) rfl)) (by
      unfold wW2
      rw [if_pos (of_decide_eq_true hb), if_neg]
      intro z
      rw [decide_eq_true z] at hc
      cases hc)) (fun hc => ev_is (ev_var rfl) (by
      unfold wW2
      rw [if_pos (of_decide_eq_true hb), if_pos]
      cases hd : decide (dD0 bl = none) with
      | true => exact of_decide_eq_true hd
      | false =>
        rw [hd] at hc
        cases hc))) (fun hb => by unfold wW2; rw [if_neg (of_decide_eq_false hb)]; rfl) fun G3 f3 => ?_
    have f3 := f2.trans f3
    refine q_ifAsg (i := 11) (v := .str (wordO (wW3 bl bm bq bc bs i))) (b := decide (i = 7) && (decide (wW2 bl bm bq bc bs i = none) && bq)) (et_and (et_is (et_test (ev_op (ev_var rfl) ev_c rv_eqI)) (isI 7)) fun _ => et_and (et_is (et_test (ev_op (ev_var rfl) ev_c (rv_eq rfl))) (word_done _)) fun _ => et_is (et_test (ev_op (ev_op (ev_call (ea_cons (ev_var rfl) (ea_cons ev_c ea_nil)) (v_cell (ex_l ((e13.trans e).trans f3) hS) (by omega))) ev_c (rv_I (by show (0 : Int) < 4; decide))) ev_c rv_eqI)) hbq) (fun hb => ev_is (w := .str (wordO (wW3 bl bm bq bc bs i))) ev_c (by
      rw [Bool.and_eq_true, Bool.and_eq_true, decide_eq_true_eq, decide_eq_true_eq] at hb
      unfold wW3
      rw [if_pos hb]
      rfl)) (fun hb => by
      unfold wW3
      rw [if_neg]
      · rfl
      · intro z
        rw [decide_eq_true z.1, decide_eq_true z.2.1, z.2.2] at hb
        cases hb) fun G4 f4 => ?_
    have f4 := f3.trans f4
    refine q_ifAsg (i := 11) (v := .str (wordO (wW4 bl bm bq bc bs i))) (b := decide (i = 8)) (et_is (et_test (ev_op (ev_var rfl) ev_c rv_eqI)) (isI 8)) (fun hb => ev_is (ev_var rfl) (by unfold wW4; rw [if_pos (of_decide_eq_true hb)])) (fun hb => by unfold wW4; rw [if_neg (of_decide_eq_false hb)]; rfl) fun G5 f5 => ?_
    have f5 := f4.trans f5
    have hpm5 := (e.trans f5) _ _ hpm13
    have hpq5 := (e.trans f5) _ _ hpq13
    have hw := want_ok (bl := bl) (bm := bm) (bq := bq) (bc := bc) (bs := bs) (i := i) (l := l) (y := y) (m := m1) (q := q1) hi9 hLb (fun hb => by rw [hlL hb]; exact hMb) hNb hyb hsm (fun hb => by rw [hmn hb]; exact hRq)
    refine s_when (b := false) (et_is (et_test (ev_op (ev_call5 (ev_var rfl) (fun G eG => el_list (ev_var rfl) (sq_of (eG _ _ hpm5))) (fun G eG => ev_var rfl) (fun G eG => el_list (ev_var rfl) (sq_of (eG _ _ hpq5))) (fun G eG => ev_var rfl) fun p r G eG hp hr => v_triedW (sq_of hp) (by omega) (sq_of hr) hi9) (ev_var rfl) (rv_ne rfl))) (by rw [hw, decide_eq_true rfl]; rfl)) (fun hb => nomatch hb) (fun _ G6 f6 => ⟨_, _, rfl, (e.trans f5).trans f6⟩)
  · obtain ⟨x10, x11, rfl, e⟩ := p
    exact s_ret ev_c fun H2 _ => q H2

end
theorem all_mk {l : PySem.W.OpenLaw} {w : World} {K : PySem.W.Frag} {h : Heap} {mg : Str → Option Value} {fa : Addr} (X : K.In h) (G : h.Ns mainGlobals mg) (hfa : mg "law" = some (.ref fa))
    {f1 f2 f3 f4 f5 f6 f7 f8 f9 f10 f11 f12 f13 f14 f15 f16 f17 f18 f19 f20 f21 f22 f23 f24 f25 f26 f27 f28 f29 : Addr} {od1 an1 od2 an2 od3 an3 od4 an4 od5 an5 od6 an6 od7 an7 od8 an8 od9 an9 od10 an10 od11 an11 od12 an12 od13 an13 od14 an14 od15 an15 od16 an16 od17 an17 od18 an18 od19 an19 od20 an20 od21 an21 od22 an22 od23 an23 od24 an24 od25 an25 od26 an26 od27 an27 od28 an28 od29 an29 : Option Addr} {sl1 sl2 sl3 sl4 sl5 sl6 sl7 sl8 sl9 sl10 sl11 sl12 sl13 sl14 sl15 sl16 sl17 sl18 sl19 sl20 sl21 sl22 sl23 sl24 sl25 sl26 sl27 sl28 sl29 : Array (Option Value)} {oc1 kV1 dc1 pm1 cd1 ct1 oc2 kV2 dc2 pm2 cd2 ct2 oc3 kV3 dc3 pm3 cd3 ct3 oc4 kV4 dc4 pm4 cd4 ct4 oc5 kV5 dc5 pm5 cd5 ct5 oc6 kV6 dc6 pm6 cd6 ct6 oc7 kV7 dc7 pm7 cd7 ct7 oc8 kV8 dc8 pm8 cd8 ct8 oc9 kV9 dc9 pm9 cd9 ct9 oc10 kV10 dc10 pm10 cd10 ct10 oc11 kV11 dc11 pm11 cd11 ct11 oc12 kV12 dc12 pm12 cd12 ct12 oc13 kV13 dc13 pm13 cd13 ct13 oc14 kV14 dc14 pm14 cd14 ct14 oc15 kV15 dc15 pm15 cd15 ct15 oc16 kV16 dc16 pm16 cd16 ct16 oc17 kV17 dc17 pm17 cd17 ct17 oc18 kV18 dc18 pm18 cd18 ct18 oc19 kV19 dc19 pm19 cd19 ct19 oc20 kV20 dc20 pm20 cd20 ct20 oc21 kV21 dc21 pm21 cd21 ct21 oc22 kV22 dc22 pm22 cd22 ct22 oc23 kV23 dc23 pm23 cd23 ct23 oc24 kV24 dc24 pm24 cd24 ct24 oc25 kV25 dc25 pm25 cd25 ct25 oc26 kV26 dc26 pm26 cd26 ct26 oc27 kV27 dc27 pm27 cd27 ct27 oc28 kV28 dc28 pm28 cd28 ct28 oc29 kV29 dc29 pm29 cd29 ct29 : Value}
    (a1 : PySem.W.nsIn K mainGlobals "asked_lies" = some (some (.ref f1))) (l1 : K.lookup f1 = some ⟨oc1, od1, .func (PySem.W.fnOf "asked_lies" "asked_lies" (defArgs s_asked_lies) (defBody s_asked_lies) (defScope s_asked_lies) .none kV1 dc1 pm1 an1 cd1 ct1), sl1⟩) (c1 : PySem.W.codeIn K cd1 "asked_lies" = true) (k1 : PySem.W.keepIn K (.ref f1) = true)
    (a2 : PySem.W.nsIn K mainGlobals "asked_marks" = some (some (.ref f2))) (l2 : K.lookup f2 = some ⟨oc2, od2, .func (PySem.W.fnOf "asked_marks" "asked_marks" (defArgs s_asked_marks) (defBody s_asked_marks) (defScope s_asked_marks) .none kV2 dc2 pm2 an2 cd2 ct2), sl2⟩) (c2 : PySem.W.codeIn K cd2 "asked_marks" = true) (k2 : PySem.W.keepIn K (.ref f2) = true)
    (a3 : PySem.W.nsIn K mainGlobals "asked_question" = some (some (.ref f3))) (l3 : K.lookup f3 = some ⟨oc3, od3, .func (PySem.W.fnOf "asked_question" "asked_question" (defArgs s_asked_question) (defBody s_asked_question) (defScope s_asked_question) .none kV3 dc3 pm3 an3 cd3 ct3), sl3⟩) (c3 : PySem.W.codeIn K cd3 "asked_question" = true) (k3 : PySem.W.keepIn K (.ref f3) = true)
    (a4 : PySem.W.nsIn K mainGlobals "begun" = some (some (.ref f4))) (l4 : K.lookup f4 = some ⟨oc4, od4, .func (PySem.W.fnOf "begun" "begun" (defArgs s_begun) (defBody s_begun) (defScope s_begun) .none kV4 dc4 pm4 an4 cd4 ct4), sl4⟩) (c4 : PySem.W.codeIn K cd4 "begun" = true) (k4 : PySem.W.keepIn K (.ref f4) = true)
    (a5 : PySem.W.nsIn K mainGlobals "behind" = some (some (.ref f5))) (l5 : K.lookup f5 = some ⟨oc5, od5, .func (PySem.W.fnOf "behind" "behind" (defArgs s_behind) (defBody s_behind) (defScope s_behind) .none kV5 dc5 pm5 an5 cd5 ct5), sl5⟩) (c5 : PySem.W.codeIn K cd5 "behind" = true) (k5 : PySem.W.keepIn K (.ref f5) = true)
    (a6 : PySem.W.nsIn K mainGlobals "after" = some (some (.ref f6))) (l6 : K.lookup f6 = some ⟨oc6, od6, .func (PySem.W.fnOf "after" "after" (defArgs s_after) (defBody s_after) (defScope s_after) .none kV6 dc6 pm6 an6 cd6 ct6), sl6⟩) (c6 : PySem.W.codeIn K cd6 "after" = true) (k6 : PySem.W.keepIn K (.ref f6) = true)
    (a7 : PySem.W.nsIn K mainGlobals "standing" = some (some (.ref f7))) (l7 : K.lookup f7 = some ⟨oc7, od7, .func (PySem.W.fnOf "standing" "standing" (defArgs s_standing) (defBody s_standing) (defScope s_standing) .none kV7 dc7 pm7 an7 cd7 ct7), sl7⟩) (c7 : PySem.W.codeIn K cd7 "standing" = true) (k7 : PySem.W.keepIn K (.ref f7) = true)
    (a8 : PySem.W.nsIn K mainGlobals "marked" = some (some (.ref f8))) (l8 : K.lookup f8 = some ⟨oc8, od8, .func (PySem.W.fnOf "marked" "marked" (defArgs s_marked) (defBody s_marked) (defScope s_marked) .none kV8 dc8 pm8 an8 cd8 ct8), sl8⟩) (c8 : PySem.W.codeIn K cd8 "marked" = true) (k8 : PySem.W.keepIn K (.ref f8) = true)
    (a9 : PySem.W.nsIn K mainGlobals "picks" = some (some (.ref f9))) (l9 : K.lookup f9 = some ⟨oc9, od9, .func (PySem.W.fnOf "picks" "picks" (defArgs s_picks) (defBody s_picks) (defScope s_picks) .none kV9 dc9 pm9 an9 cd9 ct9), sl9⟩) (c9 : PySem.W.codeIn K cd9 "picks" = true) (k9 : PySem.W.keepIn K (.ref f9) = true)
    (a10 : PySem.W.nsIn K mainGlobals "ways_left" = some (some (.ref f10))) (l10 : K.lookup f10 = some ⟨oc10, od10, .func (PySem.W.fnOf "ways_left" "ways_left" (defArgs s_ways_left) (defBody s_ways_left) (defScope s_ways_left) .none kV10 dc10 pm10 an10 cd10 ct10), sl10⟩) (c10 : PySem.W.codeIn K cd10 "ways_left" = true) (k10 : PySem.W.keepIn K (.ref f10) = true)
    (a11 : PySem.W.nsIn K mainGlobals "weight" = some (some (.ref f11))) (l11 : K.lookup f11 = some ⟨oc11, od11, .func (PySem.W.fnOf "weight" "weight" (defArgs s_weight) (defBody s_weight) (defScope s_weight) .none kV11 dc11 pm11 an11 cd11 ct11), sl11⟩) (c11 : PySem.W.codeIn K cd11 "weight" = true) (k11 : PySem.W.keepIn K (.ref f11) = true)
    (a12 : PySem.W.nsIn K mainGlobals "counted" = some (some (.ref f12))) (l12 : K.lookup f12 = some ⟨oc12, od12, .func (PySem.W.fnOf "counted" "counted" (defArgs s_counted) (defBody s_counted) (defScope s_counted) .none kV12 dc12 pm12 an12 cd12 ct12), sl12⟩) (c12 : PySem.W.codeIn K cd12 "counted" = true) (k12 : PySem.W.keepIn K (.ref f12) = true)
    (a13 : PySem.W.nsIn K mainGlobals "parts" = some (some (.ref f13))) (l13 : K.lookup f13 = some ⟨oc13, od13, .func (PySem.W.fnOf "parts" "parts" (defArgs s_parts) (defBody s_parts) (defScope s_parts) .none kV13 dc13 pm13 an13 cd13 ct13), sl13⟩) (c13 : PySem.W.codeIn K cd13 "parts" = true) (k13 : PySem.W.keepIn K (.ref f13) = true)
    (a14 : PySem.W.nsIn K mainGlobals "moved" = some (some (.ref f14))) (l14 : K.lookup f14 = some ⟨oc14, od14, .func (PySem.W.fnOf "moved" "moved" (defArgs s_moved) (defBody s_moved) (defScope s_moved) .none kV14 dc14 pm14 an14 cd14 ct14), sl14⟩) (c14 : PySem.W.codeIn K cd14 "moved" = true) (k14 : PySem.W.keepIn K (.ref f14) = true)
    (a15 : PySem.W.nsIn K mainGlobals "heavy" = some (some (.ref f15))) (l15 : K.lookup f15 = some ⟨oc15, od15, .func (PySem.W.fnOf "heavy" "heavy" (defArgs s_heavy) (defBody s_heavy) (defScope s_heavy) .none kV15 dc15 pm15 an15 cd15 ct15), sl15⟩) (c15 : PySem.W.codeIn K cd15 "heavy" = true) (k15 : PySem.W.keepIn K (.ref f15) = true)
    (a16 : PySem.W.nsIn K mainGlobals "enough" = some (some (.ref f16))) (l16 : K.lookup f16 = some ⟨oc16, od16, .func (PySem.W.fnOf "enough" "enough" (defArgs s_enough) (defBody s_enough) (defScope s_enough) .none kV16 dc16 pm16 an16 cd16 ct16), sl16⟩) (c16 : PySem.W.codeIn K cd16 "enough" = true) (k16 : PySem.W.keepIn K (.ref f16) = true)
    (a17 : PySem.W.nsIn K mainGlobals "split" = some (some (.ref f17))) (l17 : K.lookup f17 = some ⟨oc17, od17, .func (PySem.W.fnOf "split" "split" (defArgs s_split) (defBody s_split) (defScope s_split) .none kV17 dc17 pm17 an17 cd17 ct17), sl17⟩) (c17 : PySem.W.codeIn K cd17 "split" = true) (k17 : PySem.W.keepIn K (.ref f17) = true)
    (a18 : PySem.W.nsIn K mainGlobals "need" = some (some (.ref f18))) (l18 : K.lookup f18 = some ⟨oc18, od18, .func (PySem.W.fnOf "need" "need" (defArgs s_need) (defBody s_need) (defScope s_need) .none kV18 dc18 pm18 an18 cd18 ct18), sl18⟩) (c18 : PySem.W.codeIn K cd18 "need" = true) (k18 : PySem.W.keepIn K (.ref f18) = true)
    (a19 : PySem.W.nsIn K mainGlobals "question" = some (some (.ref f19))) (l19 : K.lookup f19 = some ⟨oc19, od19, .func (PySem.W.fnOf "question" "question" (defArgs s_question) (defBody s_question) (defScope s_question) .none kV19 dc19 pm19 an19 cd19 ct19), sl19⟩) (c19 : PySem.W.codeIn K cd19 "question" = true) (k19 : PySem.W.keepIn K (.ref f19) = true)
    (a20 : PySem.W.nsIn K mainGlobals "answer" = some (some (.ref f20))) (l20 : K.lookup f20 = some ⟨oc20, od20, .func (PySem.W.fnOf "answer" "answer" (defArgs s_answer) (defBody s_answer) (defScope s_answer) .none kV20 dc20 pm20 an20 cd20 ct20), sl20⟩) (c20 : PySem.W.codeIn K cd20 "answer" = true) (k20 : PySem.W.keepIn K (.ref f20) = true)
    (a21 : PySem.W.nsIn K mainGlobals "shown" = some (some (.ref f21))) (l21 : K.lookup f21 = some ⟨oc21, od21, .func (PySem.W.fnOf "shown" "shown" (defArgs s_shown) (defBody s_shown) (defScope s_shown) .none kV21 dc21 pm21 an21 cd21 ct21), sl21⟩) (c21 : PySem.W.codeIn K cd21 "shown" = true) (k21 : PySem.W.keepIn K (.ref f21) = true)
    (a22 : PySem.W.nsIn K mainGlobals "_law_cell_at" = some (some (.ref f22))) (l22 : K.lookup f22 = some ⟨oc22, od22, .func (PySem.W.fnOf "_law_cell_at" "_law_cell_at" (defArgs s__law_cell_at) (defBody s__law_cell_at) (defScope s__law_cell_at) .none kV22 dc22 pm22 an22 cd22 ct22), sl22⟩) (c22 : PySem.W.codeIn K cd22 "_law_cell_at" = true) (k22 : PySem.W.keepIn K (.ref f22) = true)
    (a23 : PySem.W.nsIn K mainGlobals "_law_word_of" = some (some (.ref f23))) (l23 : K.lookup f23 = some ⟨oc23, od23, .func (PySem.W.fnOf "_law_word_of" "_law_word_of" (defArgs s__law_word_of) (defBody s__law_word_of) (defScope s__law_word_of) .none kV23 dc23 pm23 an23 cd23 ct23), sl23⟩) (c23 : PySem.W.codeIn K cd23 "_law_word_of" = true) (k23 : PySem.W.keepIn K (.ref f23) = true)
    (a24 : PySem.W.nsIn K mainGlobals "_law_asked_by" = some (some (.ref f24))) (l24 : K.lookup f24 = some ⟨oc24, od24, .func (PySem.W.fnOf "_law_asked_by" "_law_asked_by" (defArgs s__law_asked_by) (defBody s__law_asked_by) (defScope s__law_asked_by) .none kV24 dc24 pm24 an24 cd24 ct24), sl24⟩) (c24 : PySem.W.codeIn K cd24 "_law_asked_by" = true) (k24 : PySem.W.keepIn K (.ref f24) = true)
    (a25 : PySem.W.nsIn K mainGlobals "_law_called" = some (some (.ref f25))) (l25 : K.lookup f25 = some ⟨oc25, od25, .func (PySem.W.fnOf "_law_called" "_law_called" (defArgs s__law_called) (defBody s__law_called) (defScope s__law_called) .none kV25 dc25 pm25 an25 cd25 ct25), sl25⟩) (c25 : PySem.W.codeIn K cd25 "_law_called" = true) (k25 : PySem.W.keepIn K (.ref f25) = true)
    (a26 : PySem.W.nsIn K mainGlobals "_law_tried" = some (some (.ref f26))) (l26 : K.lookup f26 = some ⟨oc26, od26, .func (PySem.W.fnOf "_law_tried" "_law_tried" (defArgs s__law_tried) (defBody s__law_tried) (defScope s__law_tried) .none kV26 dc26 pm26 an26 cd26 ct26), sl26⟩) (c26 : PySem.W.codeIn K cd26 "_law_tried" = true) (k26 : PySem.W.keepIn K (.ref f26) = true)
    (a27 : PySem.W.nsIn K mainGlobals "_law_bad_marks" = some (some (.ref f27))) (l27 : K.lookup f27 = some ⟨oc27, od27, .func (PySem.W.fnOf "_law_bad_marks" "_law_bad_marks" (defArgs s__law_bad_marks) (defBody s__law_bad_marks) (defScope s__law_bad_marks) .none kV27 dc27 pm27 an27 cd27 ct27), sl27⟩) (c27 : PySem.W.codeIn K cd27 "_law_bad_marks" = true) (k27 : PySem.W.keepIn K (.ref f27) = true)
    (a28 : PySem.W.nsIn K mainGlobals "_law_bad_question" = some (some (.ref f28))) (l28 : K.lookup f28 = some ⟨oc28, od28, .func (PySem.W.fnOf "_law_bad_question" "_law_bad_question" (defArgs s__law_bad_question) (defBody s__law_bad_question) (defScope s__law_bad_question) .none kV28 dc28 pm28 an28 cd28 ct28), sl28⟩) (c28 : PySem.W.codeIn K cd28 "_law_bad_question" = true) (k28 : PySem.W.keepIn K (.ref f28) = true)
    (a29 : PySem.W.nsIn K mainGlobals "law" = some (some (.ref f29))) (l29 : K.lookup f29 = some ⟨oc29, od29, .func (PySem.W.fnOf "law" "law" (defArgs s_law) (defBody s_law) (defScope s_law) .none kV29 dc29 pm29 an29 cd29 ct29), sl29⟩) (c29 : PySem.W.codeIn K cd29 "law" = true) (k29 : PySem.W.keepIn K (.ref f29) = true)
    {t_MOST_THINGS t_MOST_LIES t_MOST t_FIGURES : Tok}
    (y_MOST_THINGS : PySem.W.nsIn K mainGlobals "MOST_THINGS" = some (some (.int 8 t_MOST_THINGS)))
    (y_MOST_LIES : PySem.W.nsIn K mainGlobals "MOST_LIES" = some (some (.int 2 t_MOST_LIES)))
    (y_MOST : PySem.W.nsIn K mainGlobals "MOST" = some (some (.int 100 t_MOST)))
    (y_FIGURES : PySem.W.nsIn K mainGlobals "FIGURES" = some (some (.str (Str.ofString "012") t_FIGURES)))
    (z_len : PySem.W.nsIn K mainGlobals "len" = some none)
    (z_range : PySem.W.nsIn K mainGlobals "range" = some none)
    (z_int : PySem.W.nsIn K mainGlobals "int" = some none)
    (z_min : PySem.W.nsIn K mainGlobals "min" = some none)
    (z_sum : PySem.W.nsIn K mainGlobals "sum" = some none)
    (z_list : PySem.W.nsIn K mainGlobals "list" = some none)
    (z_tuple : PySem.W.nsIn K mainGlobals "tuple" = some none)
    (z_zip : PySem.W.nsIn K mainGlobals "zip" = some none)
    (z_isinstance : PySem.W.nsIn K mainGlobals "isinstance" = some none)
    (z_ValueError : PySem.W.nsIn K mainGlobals "ValueError" = some none)
    {E0 E1 E2 E3 E4 E5 : Addr}
    (ea0 : PySem.W.nsIn K mainGlobals "NoLies" = some (some (.ref E0)))
    (ea1 : PySem.W.nsIn K mainGlobals "NoMarks" = some (some (.ref E1)))
    (ea2 : PySem.W.nsIn K mainGlobals "NoQuestion" = some (some (.ref E2)))
    (ea3 : PySem.W.nsIn K mainGlobals "NoMany" = some (some (.ref E3)))
    (ea4 : PySem.W.nsIn K mainGlobals "NoNote" = some (some (.ref E4)))
    (ea5 : PySem.W.nsIn K mainGlobals "LieError" = some (some (.ref E5)))
    (eb0 : PySem.W.subIn K (.ref E0) (.type "BaseException") = some true)
    (et0 : PySem.W.typeIn K (.ref E0) = some (.type "type"))
    (ed0 : PySem.W.hasDictIn K E0 = true)
    (eb1 : PySem.W.subIn K (.ref E1) (.type "BaseException") = some true)
    (et1 : PySem.W.typeIn K (.ref E1) = some (.type "type"))
    (ed1 : PySem.W.hasDictIn K E1 = true)
    (eb2 : PySem.W.subIn K (.ref E2) (.type "BaseException") = some true)
    (et2 : PySem.W.typeIn K (.ref E2) = some (.type "type"))
    (ed2 : PySem.W.hasDictIn K E2 = true)
    (eb3 : PySem.W.subIn K (.ref E3) (.type "BaseException") = some true)
    (et3 : PySem.W.typeIn K (.ref E3) = some (.type "type"))
    (ed3 : PySem.W.hasDictIn K E3 = true)
    (eb4 : PySem.W.subIn K (.ref E4) (.type "BaseException") = some true)
    (et4 : PySem.W.typeIn K (.ref E4) = some (.type "type"))
    (ed4 : PySem.W.hasDictIn K E4 = true)
    (eb5 : PySem.W.subIn K (.ref E5) (.type "BaseException") = some true)
    (et5 : PySem.W.typeIn K (.ref E5) = some (.type "type"))
    (ed5 : PySem.W.hasDictIn K E5 = true)
    (ex0 : PySem.W.excIn K E0 [.type "ValueError", .type "Exception", .type "BaseException", .type "object"] "ValueError.__new__" = true)
    (ep0 : PySem.W.keepIn K (.ref E0) = true)
    (eg0 : PySem.W.findIn K (.ref E0) "__getattribute__" = some (some (.builtin "BaseException.__getattribute__")))
    (eh0 : PySem.W.findIn K (.ref E0) "__getattr__" = some none)
    (el0 : PySem.W.findIn K (.ref E0) "__class__" = some (some (.builtin "object.__class__")))
    (em0 : PySem.W.mroIn K E0 (.type "object") = some true)
    (es0 : PySem.W.subIn K (.ref E0) (.ref E5) = some true)
    (ev0 : PySem.W.kitOne K (.ref E0) (.type "ValueError") = some true)
    (ek00 : PySem.W.kitOne K (.ref E0) (.ref E0) = some true)
    (ek01 : PySem.W.kitOne K (.ref E0) (.ref E1) = some false)
    (ek02 : PySem.W.kitOne K (.ref E0) (.ref E2) = some false)
    (ek03 : PySem.W.kitOne K (.ref E0) (.ref E3) = some false)
    (ek04 : PySem.W.kitOne K (.ref E0) (.ref E4) = some false)
    (ex1 : PySem.W.excIn K E1 [.type "ValueError", .type "Exception", .type "BaseException", .type "object"] "ValueError.__new__" = true)
    (ep1 : PySem.W.keepIn K (.ref E1) = true)
    (eg1 : PySem.W.findIn K (.ref E1) "__getattribute__" = some (some (.builtin "BaseException.__getattribute__")))
    (eh1 : PySem.W.findIn K (.ref E1) "__getattr__" = some none)
    (el1 : PySem.W.findIn K (.ref E1) "__class__" = some (some (.builtin "object.__class__")))
    (em1 : PySem.W.mroIn K E1 (.type "object") = some true)
    (es1 : PySem.W.subIn K (.ref E1) (.ref E5) = some true)
    (ev1 : PySem.W.kitOne K (.ref E1) (.type "ValueError") = some true)
    (ek10 : PySem.W.kitOne K (.ref E1) (.ref E0) = some false)
    (ek11 : PySem.W.kitOne K (.ref E1) (.ref E1) = some true)
    (ek12 : PySem.W.kitOne K (.ref E1) (.ref E2) = some false)
    (ek13 : PySem.W.kitOne K (.ref E1) (.ref E3) = some false)
    (ek14 : PySem.W.kitOne K (.ref E1) (.ref E4) = some false)
    (ex2 : PySem.W.excIn K E2 [.type "ValueError", .type "Exception", .type "BaseException", .type "object"] "ValueError.__new__" = true)
    (ep2 : PySem.W.keepIn K (.ref E2) = true)
    (eg2 : PySem.W.findIn K (.ref E2) "__getattribute__" = some (some (.builtin "BaseException.__getattribute__")))
    (eh2 : PySem.W.findIn K (.ref E2) "__getattr__" = some none)
    (el2 : PySem.W.findIn K (.ref E2) "__class__" = some (some (.builtin "object.__class__")))
    (em2 : PySem.W.mroIn K E2 (.type "object") = some true)
    (es2 : PySem.W.subIn K (.ref E2) (.ref E5) = some true)
    (ev2 : PySem.W.kitOne K (.ref E2) (.type "ValueError") = some true)
    (ek20 : PySem.W.kitOne K (.ref E2) (.ref E0) = some false)
    (ek21 : PySem.W.kitOne K (.ref E2) (.ref E1) = some false)
    (ek22 : PySem.W.kitOne K (.ref E2) (.ref E2) = some true)
    (ek23 : PySem.W.kitOne K (.ref E2) (.ref E3) = some false)
    (ek24 : PySem.W.kitOne K (.ref E2) (.ref E4) = some false)
    (ex3 : PySem.W.excIn K E3 [.type "ValueError", .type "Exception", .type "BaseException", .type "object"] "ValueError.__new__" = true)
    (ep3 : PySem.W.keepIn K (.ref E3) = true)
    (eg3 : PySem.W.findIn K (.ref E3) "__getattribute__" = some (some (.builtin "BaseException.__getattribute__")))
    (eh3 : PySem.W.findIn K (.ref E3) "__getattr__" = some none)
    (el3 : PySem.W.findIn K (.ref E3) "__class__" = some (some (.builtin "object.__class__")))
    (em3 : PySem.W.mroIn K E3 (.type "object") = some true)
    (es3 : PySem.W.subIn K (.ref E3) (.ref E5) = some true)
    (ev3 : PySem.W.kitOne K (.ref E3) (.type "ValueError") = some true)
    (ek30 : PySem.W.kitOne K (.ref E3) (.ref E0) = some false)
    (ek31 : PySem.W.kitOne K (.ref E3) (.ref E1) = some false)
    (ek32 : PySem.W.kitOne K (.ref E3) (.ref E2) = some false)
    (ek33 : PySem.W.kitOne K (.ref E3) (.ref E3) = some true)
    (ek34 : PySem.W.kitOne K (.ref E3) (.ref E4) = some false)
    (ex4 : PySem.W.excIn K E4 [.type "ValueError", .type "Exception", .type "BaseException", .type "object"] "ValueError.__new__" = true)
    (ep4 : PySem.W.keepIn K (.ref E4) = true)
    (eg4 : PySem.W.findIn K (.ref E4) "__getattribute__" = some (some (.builtin "BaseException.__getattribute__")))
    (eh4 : PySem.W.findIn K (.ref E4) "__getattr__" = some none)
    (el4 : PySem.W.findIn K (.ref E4) "__class__" = some (some (.builtin "object.__class__")))
    (em4 : PySem.W.mroIn K E4 (.type "object") = some true)
    (es4 : PySem.W.subIn K (.ref E4) (.ref E5) = some true)
    (ev4 : PySem.W.kitOne K (.ref E4) (.type "ValueError") = some true)
    (ek40 : PySem.W.kitOne K (.ref E4) (.ref E0) = some false)
    (ek41 : PySem.W.kitOne K (.ref E4) (.ref E1) = some false)
    (ek42 : PySem.W.kitOne K (.ref E4) (.ref E2) = some false)
    (ek43 : PySem.W.kitOne K (.ref E4) (.ref E3) = some false)
    (ek44 : PySem.W.kitOne K (.ref E4) (.ref E4) = some true)
    (en0 : PySem.W.specialIn K (.builtin "object.__class__") "__get__" = some (some (.builtin "getset_descriptor.__get__")))
    (en1 : PySem.W.takesIn K (.builtin "object.__class__") = some true)
    : ∃ fd : FuncData, (∀ (s : Shared) (v : Value), BindsTo s fd ⟨[v], []⟩ [("script", v)]) ∧ ∀ base : Heap, K.In base → base.Ns mainGlobals mg → FnOk l.prog w K mg base CX0 100 fa fd ["script"] (spLaw K) := by
  have e := hfa.symm.trans (PySem.W.mg_of X G a29)
  cases e
  have F1 := fun_mk (st := s_asked_lies) l1 c1 k1
  have B1 := F1.binds (ps := ["lies"]) fun _ _ _ _ _ _ us hl => match us, hl with | [_], _ => rfl
  have F2 := fun_mk (st := s_asked_marks) l2 c2 k2
  have B2 := F2.binds (ps := ["marks", "lies"]) fun _ _ _ _ _ _ us hl => match us, hl with | [_, _], _ => rfl
  have F3 := fun_mk (st := s_asked_question) l3 c3 k3
  have B3 := F3.binds (ps := ["things", "question"]) fun _ _ _ _ _ _ us hl => match us, hl with | [_, _], _ => rfl
  have F4 := fun_mk (st := s_begun) l4 c4 k4
  have B4 := F4.binds (ps := ["things"]) fun _ _ _ _ _ _ us hl => match us, hl with | [_], _ => rfl
  have F5 := fun_mk (st := s_behind) l5 c5 k5
  have B5 := F5.binds (ps := ["marks", "lies", "question", "yes"]) fun _ _ _ _ _ _ us hl => match us, hl with | [_, _, _, _], _ => rfl
  have F6 := fun_mk (st := s_after) l6 c6 k6
  have B6 := F6.binds (ps := ["marks", "lies", "asked", "yes"]) fun _ _ _ _ _ _ us hl => match us, hl with | [_, _, _, _], _ => rfl
  have F7 := fun_mk (st := s_standing) l7 c7 k7
  have B7 := F7.binds (ps := ["marks", "lies"]) fun _ _ _ _ _ _ us hl => match us, hl with | [_, _], _ => rfl
  have F8 := fun_mk (st := s_marked) l8 c8 k8
  have B8 := F8.binds (ps := ["things", "lies", "talk"]) fun _ _ _ _ _ _ us hl => match us, hl with | [_, _, _], _ => rfl
  have F9 := fun_mk (st := s_picks) l9 c9 k9
  have B9 := F9.binds (ps := ["total", "some"]) fun _ _ _ _ _ _ us hl => match us, hl with | [_, _], _ => rfl
  have F10 := fun_mk (st := s_ways_left) l10 c10 k10
  have B10 := F10.binds (ps := ["lies", "many"]) fun _ _ _ _ _ _ us hl => match us, hl with | [_, _], _ => rfl
  have F11 := fun_mk (st := s_weight) l11 c11 k11
  have B11 := F11.binds (ps := ["marks", "lies", "many"]) fun _ _ _ _ _ _ us hl => match us, hl with | [_, _, _], _ => rfl
  have F12 := fun_mk (st := s_counted) l12 c12 k12
  have B12 := F12.binds (ps := ["marks", "lies"]) fun _ _ _ _ _ _ us hl => match us, hl with | [_, _], _ => rfl
  have F13 := fun_mk (st := s_parts) l13 c13 k13
  have B13 := F13.binds (ps := ["counts"]) fun _ _ _ _ _ _ us hl => match us, hl with | [_], _ => rfl
  have F14 := fun_mk (st := s_moved) l14 c14 k14
  have B14 := F14.binds (ps := ["counts", "stay"]) fun _ _ _ _ _ _ us hl => match us, hl with | [_, _], _ => rfl
  have F15 := fun_mk (st := s_heavy) l15 c15 k15
  have B15 := F15.binds (ps := ["counts", "many"]) fun _ _ _ _ _ _ us hl => match us, hl with | [_, _], _ => rfl
  have F16 := fun_mk (st := s_enough) l16 c16 k16
  have B16 := F16.binds (ps := ["counts", "many", "known"]) fun _ _ _ _ _ _ us hl => match us, hl with | [_, _, _], _ => rfl
  have F17 := fun_mk (st := s_split) l17 c17 k17
  have B17 := F17.binds (ps := ["counts", "many", "known"]) fun _ _ _ _ _ _ us hl => match us, hl with | [_, _, _], _ => rfl
  have F18 := fun_mk (st := s_need) l18 c18 k18
  have B18 := F18.binds (ps := ["marks", "lies"]) fun _ _ _ _ _ _ us hl => match us, hl with | [_, _], _ => rfl
  have F19 := fun_mk (st := s_question) l19 c19 k19
  have B19 := F19.binds (ps := ["marks", "lies"]) fun _ _ _ _ _ _ us hl => match us, hl with | [_, _], _ => rfl
  have F20 := fun_mk (st := s_answer) l20 c20 k20
  have B20 := F20.binds (ps := ["marks", "lies", "asked"]) fun _ _ _ _ _ _ us hl => match us, hl with | [_, _, _], _ => rfl
  have F21 := fun_mk (st := s_shown) l21 c21 k21
  have B21 := F21.binds (ps := ["marks", "lies"]) fun _ _ _ _ _ _ us hl => match us, hl with | [_, _], _ => rfl
  have F22 := fun_mk (st := s__law_cell_at) l22 c22 k22
  have B22 := F22.binds (ps := ["script", "k"]) fun _ _ _ _ _ _ us hl => match us, hl with | [_, _], _ => rfl
  have F23 := fun_mk (st := s__law_word_of) l23 c23 k23
  have B23 := F23.binds (ps := ["e"]) fun _ _ _ _ _ _ us hl => match us, hl with | [_], _ => rfl
  have F24 := fun_mk (st := s__law_asked_by) l24 c24 k24
  have B24 := F24.binds (ps := ["cell", "things"]) fun _ _ _ _ _ _ us hl => match us, hl with | [_, _], _ => rfl
  have F25 := fun_mk (st := s__law_called) l25 c25 k25
  have B25 := F25.binds (ps := ["which", "marks", "lies", "asked", "many"]) fun _ _ _ _ _ _ us hl => match us, hl with | [_, _, _, _, _], _ => rfl
  have F26 := fun_mk (st := s__law_tried) l26 c26 k26
  have B26 := F26.binds (ps := ["which", "marks", "lies", "asked", "many"]) fun _ _ _ _ _ _ us hl => match us, hl with | [_, _, _, _, _], _ => rfl
  have F27 := fun_mk (st := s__law_bad_marks) l27 c27 k27
  have B27 := F27.binds (ps := ["marks", "lies", "kind", "cell"]) fun _ _ _ _ _ _ us hl => match us, hl with | [_, _, _, _], _ => rfl
  have F28 := fun_mk (st := s__law_bad_question) l28 c28 k28
  have B28 := F28.binds (ps := ["asked", "things", "kind", "cell"]) fun _ _ _ _ _ _ us hl => match us, hl with | [_, _, _, _], _ => rfl
  have T : Txt K mg := { f_asked_lies := ⟨_, _, F1, PySem.W.mg_of X G a1, B1⟩, f_asked_marks := ⟨_, _, F2, PySem.W.mg_of X G a2, B2⟩, f_asked_question := ⟨_, _, F3, PySem.W.mg_of X G a3, B3⟩, f_begun := ⟨_, _, F4, PySem.W.mg_of X G a4, B4⟩, f_behind := ⟨_, _, F5, PySem.W.mg_of X G a5, B5⟩, f_after := ⟨_, _, F6, PySem.W.mg_of X G a6, B6⟩, f_standing := ⟨_, _, F7, PySem.W.mg_of X G a7, B7⟩, f_marked := ⟨_, _, F8, PySem.W.mg_of X G a8, B8⟩, f_picks := ⟨_, _, F9, PySem.W.mg_of X G a9, B9⟩, f_ways_left := ⟨_, _, F10, PySem.W.mg_of X G a10, B10⟩, f_weight := ⟨_, _, F11, PySem.W.mg_of X G a11, B11⟩, f_counted := ⟨_, _, F12, PySem.W.mg_of X G a12, B12⟩, f_parts := ⟨_, _, F13, PySem.W.mg_of X G a13, B13⟩, f_moved := ⟨_, _, F14, PySem.W.mg_of X G a14, B14⟩, f_heavy := ⟨_, _, F15, PySem.W.mg_of X G a15, B15⟩, f_enough := ⟨_, _, F16, PySem.W.mg_of X G a16, B16⟩, f_split := ⟨_, _, F17, PySem.W.mg_of X G a17, B17⟩, f_need := ⟨_, _, F18, PySem.W.mg_of X G a18, B18⟩, f_question := ⟨_, _, F19, PySem.W.mg_of X G a19, B19⟩, f_answer := ⟨_, _, F20, PySem.W.mg_of X G a20, B20⟩, f_shown := ⟨_, _, F21, PySem.W.mg_of X G a21, B21⟩, f__law_cell_at := ⟨_, _, F22, PySem.W.mg_of X G a22, B22⟩, f__law_word_of := ⟨_, _, F23, PySem.W.mg_of X G a23, B23⟩, f__law_asked_by := ⟨_, _, F24, PySem.W.mg_of X G a24, B24⟩, f__law_called := ⟨_, _, F25, PySem.W.mg_of X G a25, B25⟩, f__law_tried := ⟨_, _, F26, PySem.W.mg_of X G a26, B26⟩, f__law_bad_marks := ⟨_, _, F27, PySem.W.mg_of X G a27, B27⟩, f__law_bad_question := ⟨_, _, F28, PySem.W.mg_of X G a28, B28⟩, c_MOST_THINGS := ⟨_, PySem.W.mg_of X G y_MOST_THINGS⟩, c_MOST_LIES := ⟨_, PySem.W.mg_of X G y_MOST_LIES⟩, c_MOST := ⟨_, PySem.W.mg_of X G y_MOST⟩, c_FIGURES := ⟨_, PySem.W.mg_of X G y_FIGURES⟩, b_len := PySem.W.mg_none_of X G z_len, b_range := PySem.W.mg_none_of X G z_range, b_int := PySem.W.mg_none_of X G z_int, b_min := PySem.W.mg_none_of X G z_min, b_sum := PySem.W.mg_none_of X G z_sum, b_list := PySem.W.mg_none_of X G z_list, b_tuple := PySem.W.mg_none_of X G z_tuple, b_zip := PySem.W.mg_none_of X G z_zip, b_isinstance := PySem.W.mg_none_of X G z_isinstance, b_ValueError := PySem.W.mg_none_of X G z_ValueError }
  have five : ∀ i : Nat, i < 5 → i = 0 ∨ i = 1 ∨ i = 2 ∨ i = 3 ∨ i = 4 := fun i h => by omega
  have xx5 : ∀ i, i < 5 → PySem.W.exmOne K (.ref ((EA.mk E5 E0 E1 E2 E3 E4).at i)) (.ref E5) = some true := by
    intro i h
    rcases five i h with rfl | rfl | rfl | rfl | rfl
    · exact PySem.W.exm_ref eb5 ed5 et5 es0
    · exact PySem.W.exm_ref eb5 ed5 et5 es1
    · exact PySem.W.exm_ref eb5 ed5 et5 es2
    · exact PySem.W.exm_ref eb5 ed5 et5 es3
    · exact PySem.W.exm_ref eb5 ed5 et5 es4
  have kk5 : ∀ i j, i < 5 → j < 5 → PySem.W.kitOne K (.ref ((EA.mk E5 E0 E1 E2 E3 E4).at i)) (.ref ((EA.mk E5 E0 E1 E2 E3 E4).at j)) = some (decide (i = j)) := by
    intro i j h h'
    rcases five i h with rfl | rfl | rfl | rfl | rfl
    · rcases five j h' with rfl | rfl | rfl | rfl | rfl
      · exact ek00
      · exact ek01
      · exact ek02
      · exact ek03
      · exact ek04
    · rcases five j h' with rfl | rfl | rfl | rfl | rfl
      · exact ek10
      · exact ek11
      · exact ek12
      · exact ek13
      · exact ek14
    · rcases five j h' with rfl | rfl | rfl | rfl | rfl
      · exact ek20
      · exact ek21
      · exact ek22
      · exact ek23
      · exact ek24
    · rcases five j h' with rfl | rfl | rfl | rfl | rfl
      · exact ek30
      · exact ek31
      · exact ek32
      · exact ek33
      · exact ek34
    · rcases five j h' with rfl | rfl | rfl | rfl | rfl
      · exact ek40
      · exact ek41
      · exact ek42
      · exact ek43
      · exact ek44
  have vv5 : ∀ i, i < 5 → PySem.W.kitOne K (.ref ((EA.mk E5 E0 E1 E2 E3 E4).at i)) (.type "ValueError") = some true := by
    intro i h
    rcases five i h with rfl | rfl | rfl | rfl | rfl
    · exact ev0
    · exact ev1
    · exact ev2
    · exact ev3
    · exact ev4
  have TX : Tx K mg (EA.mk E5 E0 E1 E2 E3 E4) := ⟨⟨PySem.W.mg_of X G ea0, ex0, ep0, et0, ⟨eg0, eh0, eb0, ed0, el0, en0, en1, em0⟩⟩, ⟨PySem.W.mg_of X G ea1, ex1, ep1, et1, ⟨eg1, eh1, eb1, ed1, el1, en0, en1, em1⟩⟩, ⟨PySem.W.mg_of X G ea2, ex2, ep2, et2, ⟨eg2, eh2, eb2, ed2, el2, en0, en1, em2⟩⟩, ⟨PySem.W.mg_of X G ea3, ex3, ep3, et3, ⟨eg3, eh3, eb3, ed3, el3, en0, en1, em3⟩⟩, ⟨PySem.W.mg_of X G ea4, ex4, ep4, et4, ⟨eg4, eh4, eb4, ed4, el4, en0, en1, em4⟩⟩, PySem.W.mg_of X G ea5, xx5, kk5, vv5⟩
  have FL := fun_mk (st := s_law) l29 c29 k29
  exact ⟨_, fun s v => .of_eq rfl, fun base _ _ => (ok_law FL T TX).mono (by decide)⟩
end LW
open PySem PySem.W PyProof.Rows
set_option maxRecDepth 100000 in
set_option maxHeartbeats 0 in
theorem PySem.Challenge.cw_lieask_k12_refused_holds : PySem.Challenge.rw_lieask_k12_refused.Holds := by
  w_on; o_law; k_head; (case hw => w_witness2)
  k_fill
  refine L2.walk_of (l := PySem.Challenge.rw_lieask_k12_refused) (n := 63) (k := 100) (x := "script") (CX := fun _ => L2.CX0) (sp := fun w => LW.spLaw _) rfl (by decide) rfl ⟨rfl, by decide, by decide⟩ (fun w h Y => PySem.W.kIn_of Y) ?F (fun _ _ a ns hl _ hS => ⟨a, ns, rfl, hS, hl, fun _ => rfl⟩) (fun _ _ _ _ _ h => h)
  case F =>
    intro w mg fa h KX G hmg
    refine' LW.all_mk KX G hmg ?a1 ?l1 ?c1 ?k1 ?a2 ?l2 ?c2 ?k2 ?a3 ?l3 ?c3 ?k3 ?a4 ?l4 ?c4 ?k4 ?a5 ?l5 ?c5 ?k5 ?a6 ?l6 ?c6 ?k6 ?a7 ?l7 ?c7 ?k7 ?a8 ?l8 ?c8 ?k8 ?a9 ?l9 ?c9 ?k9 ?a10 ?l10 ?c10 ?k10 ?a11 ?l11 ?c11 ?k11 ?a12 ?l12 ?c12 ?k12 ?a13 ?l13 ?c13 ?k13 ?a14 ?l14 ?c14 ?k14 ?a15 ?l15 ?c15 ?k15 ?a16 ?l16 ?c16 ?k16 ?a17 ?l17 ?c17 ?k17 ?a18 ?l18 ?c18 ?k18 ?a19 ?l19 ?c19 ?k19 ?a20 ?l20 ?c20 ?k20 ?a21 ?l21 ?c21 ?k21 ?a22 ?l22 ?c22 ?k22 ?a23 ?l23 ?c23 ?k23 ?a24 ?l24 ?c24 ?k24 ?a25 ?l25 ?c25 ?k25 ?a26 ?l26 ?c26 ?k26 ?a27 ?l27 ?c27 ?k27 ?a28 ?l28 ?c28 ?k28 ?a29 ?l29 ?c29 ?k29 ?y_MOST_THINGS ?y_MOST_LIES ?y_MOST ?y_FIGURES ?z_len ?z_range ?z_int ?z_min ?z_sum ?z_list ?z_tuple ?z_zip ?z_isinstance ?z_ValueError ?ea0 ?ea1 ?ea2 ?ea3 ?ea4 ?ea5 ?eb0 ?et0 ?ed0 ?eb1 ?et1 ?ed1 ?eb2 ?et2 ?ed2 ?eb3 ?et3 ?ed3 ?eb4 ?et4 ?ed4 ?eb5 ?et5 ?ed5 ?ex0 ?ep0 ?eg0 ?eh0 ?el0 ?em0 ?es0 ?ev0 ?ek00 ?ek01 ?ek02 ?ek03 ?ek04 ?ex1 ?ep1 ?eg1 ?eh1 ?el1 ?em1 ?es1 ?ev1 ?ek10 ?ek11 ?ek12 ?ek13 ?ek14 ?ex2 ?ep2 ?eg2 ?eh2 ?el2 ?em2 ?es2 ?ev2 ?ek20 ?ek21 ?ek22 ?ek23 ?ek24 ?ex3 ?ep3 ?eg3 ?eh3 ?el3 ?em3 ?es3 ?ev3 ?ek30 ?ek31 ?ek32 ?ek33 ?ek34 ?ex4 ?ep4 ?eg4 ?eh4 ?el4 ?em4 ?es4 ?ev4 ?ek40 ?ek41 ?ek42 ?ek43 ?ek44 ?en0 ?en1
    (case a1 => k_is)
    (case l1 => k_is)
    (case c1 => k_is)
    (case k1 => k_is)
    (case a2 => k_is)
    (case l2 => k_is)
    (case c2 => k_is)
    (case k2 => k_is)
    (case a3 => k_is)
    (case l3 => k_is)
    (case c3 => k_is)
    (case k3 => k_is)
    (case a4 => k_is)
    (case l4 => k_is)
    (case c4 => k_is)
    (case k4 => k_is)
    (case a5 => k_is)
    (case l5 => k_is)
    (case c5 => k_is)
    (case k5 => k_is)
    (case a6 => k_is)
    (case l6 => k_is)
    (case c6 => k_is)
    (case k6 => k_is)
    (case a7 => k_is)
    (case l7 => k_is)
    (case c7 => k_is)
    (case k7 => k_is)
    (case a8 => k_is)
    (case l8 => k_is)
    (case c8 => k_is)
    (case k8 => k_is)
    (case a9 => k_is)
    (case l9 => k_is)
    (case c9 => k_is)
    (case k9 => k_is)
    (case a10 => k_is)
    (case l10 => k_is)
    (case c10 => k_is)
    (case k10 => k_is)
    (case a11 => k_is)
    (case l11 => k_is)
    (case c11 => k_is)
    (case k11 => k_is)
    (case a12 => k_is)
    (case l12 => k_is)
    (case c12 => k_is)
    (case k12 => k_is)
    (case a13 => k_is)
    (case l13 => k_is)
    (case c13 => k_is)
    (case k13 => k_is)
    (case a14 => k_is)
    (case l14 => k_is)
    (case c14 => k_is)
    (case k14 => k_is)
    (case a15 => k_is)
    (case l15 => k_is)
    (case c15 => k_is)
    (case k15 => k_is)
    (case a16 => k_is)
    (case l16 => k_is)
    (case c16 => k_is)
    (case k16 => k_is)
    (case a17 => k_is)
    (case l17 => k_is)
    (case c17 => k_is)
    (case k17 => k_is)
    (case a18 => k_is)
    (case l18 => k_is)
    (case c18 => k_is)
    (case k18 => k_is)
    (case a19 => k_is)
    (case l19 => k_is)
    (case c19 => k_is)
    (case k19 => k_is)
    (case a20 => k_is)
    (case l20 => k_is)
    (case c20 => k_is)
    (case k20 => k_is)
    (case a21 => k_is)
    (case l21 => k_is)
    (case c21 => k_is)
    (case k21 => k_is)
    (case a22 => k_is)
    (case l22 => k_is)
    (case c22 => k_is)
    (case k22 => k_is)
    (case a23 => k_is)
    (case l23 => k_is)
    (case c23 => k_is)
    (case k23 => k_is)
    (case a24 => k_is)
    (case l24 => k_is)
    (case c24 => k_is)
    (case k24 => k_is)
    (case a25 => k_is)
    (case l25 => k_is)
    (case c25 => k_is)
    (case k25 => k_is)
    (case a26 => k_is)
    (case l26 => k_is)
    (case c26 => k_is)
    (case k26 => k_is)
    (case a27 => k_is)
    (case l27 => k_is)
    (case c27 => k_is)
    (case k27 => k_is)
    (case a28 => k_is)
    (case l28 => k_is)
    (case c28 => k_is)
    (case k28 => k_is)
    (case a29 => k_is)
    (case l29 => k_is)
    (case c29 => k_is)
    (case k29 => k_is)
    (case y_MOST_THINGS => k_is)
    (case y_MOST_LIES => k_is)
    (case y_MOST => k_is)
    (case y_FIGURES => k_is)
    (case z_len => k_is)
    (case z_range => k_is)
    (case z_int => k_is)
    (case z_min => k_is)
    (case z_sum => k_is)
    (case z_list => k_is)
    (case z_tuple => k_is)
    (case z_zip => k_is)
    (case z_isinstance => k_is)
    (case z_ValueError => k_is)
    (case ea0 => k_is)
    (case ea1 => k_is)
    (case ea2 => k_is)
    (case ea3 => k_is)
    (case ea4 => k_is)
    (case ea5 => k_is)
    (case eb0 => k_is)
    (case et0 => k_is)
    (case ed0 => k_is)
    (case eb1 => k_is)
    (case et1 => k_is)
    (case ed1 => k_is)
    (case eb2 => k_is)
    (case et2 => k_is)
    (case ed2 => k_is)
    (case eb3 => k_is)
    (case et3 => k_is)
    (case ed3 => k_is)
    (case eb4 => k_is)
    (case et4 => k_is)
    (case ed4 => k_is)
    (case eb5 => k_is)
    (case et5 => k_is)
    (case ed5 => k_is)
    (case ex0 => k_exc)
    (case ep0 => k_is)
    (case eg0 => k_is)
    (case eh0 => k_is)
    (case el0 => k_is)
    (case em0 => k_is)
    (case es0 => k_is)
    (case ev0 => first | k_is | kit_is | rfl)
    (case ek00 => first | k_is | kit_is | rfl)
    (case ek01 => first | k_is | kit_is | rfl)
    (case ek02 => first | k_is | kit_is | rfl)
    (case ek03 => first | k_is | kit_is | rfl)
    (case ek04 => first | k_is | kit_is | rfl)
    (case ex1 => k_exc)
    (case ep1 => k_is)
    (case eg1 => k_is)
    (case eh1 => k_is)
    (case el1 => k_is)
    (case em1 => k_is)
    (case es1 => k_is)
    (case ev1 => first | k_is | kit_is | rfl)
    (case ek10 => first | k_is | kit_is | rfl)
    (case ek11 => first | k_is | kit_is | rfl)
    (case ek12 => first | k_is | kit_is | rfl)
    (case ek13 => first | k_is | kit_is | rfl)
    (case ek14 => first | k_is | kit_is | rfl)
    (case ex2 => k_exc)
    (case ep2 => k_is)
    (case eg2 => k_is)
    (case eh2 => k_is)
    (case el2 => k_is)
    (case em2 => k_is)
    (case es2 => k_is)
    (case ev2 => first | k_is | kit_is | rfl)
    (case ek20 => first | k_is | kit_is | rfl)
    (case ek21 => first | k_is | kit_is | rfl)
    (case ek22 => first | k_is | kit_is | rfl)
    (case ek23 => first | k_is | kit_is | rfl)
    (case ek24 => first | k_is | kit_is | rfl)
    (case ex3 => k_exc)
    (case ep3 => k_is)
    (case eg3 => k_is)
    (case eh3 => k_is)
    (case el3 => k_is)
    (case em3 => k_is)
    (case es3 => k_is)
    (case ev3 => first | k_is | kit_is | rfl)
    (case ek30 => first | k_is | kit_is | rfl)
    (case ek31 => first | k_is | kit_is | rfl)
    (case ek32 => first | k_is | kit_is | rfl)
    (case ek33 => first | k_is | kit_is | rfl)
    (case ek34 => first | k_is | kit_is | rfl)
    (case ex4 => k_exc)
    (case ep4 => k_is)
    (case eg4 => k_is)
    (case eh4 => k_is)
    (case el4 => k_is)
    (case em4 => k_is)
    (case es4 => k_is)
    (case ev4 => first | k_is | kit_is | rfl)
    (case ek40 => first | k_is | kit_is | rfl)
    (case ek41 => first | k_is | kit_is | rfl)
    (case ek42 => first | k_is | kit_is | rfl)
    (case ek43 => first | k_is | kit_is | rfl)
    (case ek44 => first | k_is | kit_is | rfl)
    (case en0 => k_is)
    (case en1 => k_is)
