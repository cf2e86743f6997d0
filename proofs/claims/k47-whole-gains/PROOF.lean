import PyProof.Rows.All
import Wide.All
import OpenK.AllK
import Wide.FinOn
import HandS.ForMost
import HandS.ForExc
import HandS.Defaults
import HandS.Property
import HandS.IsInst
import HandS.Flow
import HandS.Deep
import HandS.Walk
import HandS.HeadHook1
import HandS.HeadHook2
import KE.KStateDown
import HandS.Head0
import HandS.Head1
import HandS.Head2
import HandS.HeadEnd
import KE.GoesEnum
import KE.GoesMore
import HandS.Star
import HandS.WideBits
import HandS.FStr
import HandS.Ends
import KE.KCallOwn
import PyProof.ReprRoads
import PyProof.WalksMore
import PyProof.SumWalkG
import HandS.Wide
import HandS.Text
import KE.KxText
import PyProof.Rows.RegFStrParts
import PySem.Challenge.RW_tellerhabits_k47_whole_gains
set_option Elab.async false
set_option linter.all false
set_option maxRecDepth 100000
/-! Plain law: sums, tableau, pivot, Bland's rule ends. No program in sight. -/
namespace Bl
def sm : Nat → (Nat → Rat) → Rat
  | 0, _ => 0
  | n + 1, f => sm n f + f n
theorem sm_congr {n : Nat} {f g : Nat → Rat} (h : ∀ j, j < n → f j = g j) : sm n f = sm n g := by
  induction n with
  | zero => rfl
  | succ n ih => simp only [sm]; rw [ih (fun j hj => h j (by omega)), h n (by omega)]
theorem sm_zero {n : Nat} {f : Nat → Rat} (h : ∀ j, j < n → f j = 0) : sm n f = 0 := by
  induction n with
  | zero => rfl
  | succ n ih => simp only [sm]; rw [ih (fun j hj => h j (by omega)), h n (by omega)]; grind
theorem sm_add (n : Nat) (f g : Nat → Rat) : sm n (fun j => f j + g j) = sm n f + sm n g := by
  induction n with
  | zero => simp only [sm]; grind
  | succ n ih => simp only [sm]; rw [ih]; grind
theorem sm_sub (n : Nat) (f g : Nat → Rat) : sm n (fun j => f j - g j) = sm n f - sm n g := by
  induction n with
  | zero => simp [sm]; grind
  | succ n ih => simp only [sm]; rw [ih]; grind
theorem sm_mul (n : Nat) (c : Rat) (f : Nat → Rat) : sm n (fun j => c * f j) = c * sm n f := by
  induction n with
  | zero => simp [sm]
  | succ n ih => simp only [sm]; rw [ih]; grind
theorem sm_single {n k : Nat} (f : Nat → Rat) (hk : k < n) : sm n (fun j => if j = k then f j else 0) = f k := by
  induction n with
  | zero => omega
  | succ n ih =>
    simp only [sm]
    by_cases e : n = k
    · subst e
      rw [sm_zero (fun j hj => if_neg (by omega)), if_pos rfl]; grind
    · rw [ih (by omega), if_neg e]; grind
theorem sm_swap (n m : Nat) (f : Nat → Nat → Rat) : sm n (fun i => sm m (fun j => f i j)) = sm m (fun j => sm n (fun i => f i j)) := by
  induction n with
  | zero => simp only [sm]; rw [sm_zero (fun _ _ => rfl)]
  | succ n ih => simp only [sm]; rw [ih, ← sm_add]
theorem sm_nonneg {n : Nat} {f : Nat → Rat} (h : ∀ j, j < n → 0 ≤ f j) : 0 ≤ sm n f := by
  induction n with
  | zero => simp [sm]
  | succ n ih =>
    simp only [sm]
    have a := ih (fun j hj => h j (by omega))
    have b := h n (by omega)
    grind
theorem sm_pos {n : Nat} {f : Nat → Rat} (h : ∀ j, j < n → 0 ≤ f j) {k : Nat} (hk : k < n) (hp : 0 < f k) : 0 < sm n f := by
  induction n with
  | zero => omega
  | succ n ih =>
    simp only [sm]
    by_cases e : k = n
    · subst e
      have a := sm_nonneg (fun j hj => h j (Nat.lt_succ_of_lt hj))
      grind
    · have a := ih (fun j hj => h j (by omega)) (by omega)
      have b := h n (by omega)
      grind
/-- a negative sum has a negative part -/
theorem sm_neg {n : Nat} {f : Nat → Rat} (h : sm n f < 0) : ∃ j, j < n ∧ f j < 0 := by
  apply Classical.byContradiction
  intro c
  have : 0 ≤ sm n f := sm_nonneg fun j hj => by
    apply Classical.byContradiction
    intro e
    exact c ⟨j, hj, by grind⟩
  grind
/-! ### the tableau -/
/-- the row x times the vector v, n columns and the right-hand side at n -/
def dot (n : Nat) (x v : Nat → Rat) : Rat := sm (n + 1) (fun j => x j * v j)
structure Tab where
  T : Nat → Nat → Rat
  z : Nat → Rat
  b : Nat → Nat
/-- what stands in the tableau between two turns -/
structure Inv (m n : Nat) (A : Nat → Nat → Rat) (c : Nat → Rat) (S : Tab) : Prop where
  ker : ∀ v : Nat → Rat, (∀ i, i < m → dot n (S.T i) v = 0) ↔ (∀ i, i < m → dot n (A i) v = 0)
  obj : ∀ v : Nat → Rat, (∀ i, i < m → dot n (A i) v = 0) → dot n S.z v = dot n c v
  bas : ∀ i, i < m → S.b i < n
  unit : ∀ i, i < m → ∀ k, k < m → S.T i (S.b k) = if i = k then 1 else 0
  zb : ∀ k, k < m → S.z (S.b k) = 0
  feas : ∀ i, i < m → 0 ≤ S.T i n
/-- the direction of the column s -/
def dir (m : Nat) (S : Tab) (s : Nat) : Nat → Rat := fun j => (if j = s then 1 else 0) - sm m (fun k => if j = S.b k then S.T k s else 0)
theorem dot_dir {m n : Nat} {S : Tab} {s : Nat} (x : Nat → Rat) (hs : s < n + 1) (hb : ∀ i, i < m → S.b i < n) :
    dot n x (dir m S s) = x s - sm m (fun k => x (S.b k) * S.T k s) := by
  unfold dot dir
  have e : ∀ j, j < n + 1 → x j * ((if j = s then (1 : Rat) else 0) - sm m (fun k => if j = S.b k then S.T k s else 0)) =
      (if j = s then x j else 0) - sm m (fun k => if j = S.b k then x j * S.T k s else 0) := by
    intro j _
    have e2 : sm m (fun k => if j = S.b k then x j * S.T k s else 0) = x j * sm m (fun k => if j = S.b k then S.T k s else 0) := by
      rw [← sm_mul]
      exact sm_congr fun k _ => by split <;> grind
    rw [e2]
    split <;> grind
  rw [sm_congr e, sm_sub, sm_single _ hs, sm_swap]
  congr 1
  exact sm_congr fun k hk => by
    show sm (n + 1) (fun j => if j = S.b k then x j * S.T k s else 0) = _
    rw [sm_single (fun j => x j * S.T k s) (by have := hb k hk; omega)]
section
variable {m n : Nat} {A : Nat → Nat → Rat} {c : Nat → Rat} {S : Tab}
theorem Inv.dir_ker (I : Inv m n A c S) {s : Nat} (hs : s < n + 1) : ∀ i, i < m → dot n (S.T i) (dir m S s) = 0 := by
  intro i hi
  rw [dot_dir _ hs I.bas]
  have e : sm m (fun k => S.T i (S.b k) * S.T k s) = S.T i s := by
    rw [← sm_single (fun k => S.T k s) hi]
    exact sm_congr fun k hk => by
      rw [I.unit i hi k hk]
      by_cases e : k = i
      · subst e; simp
      · rw [if_neg e, if_neg (fun h => e h.symm)]; grind
  rw [e]; grind
theorem Inv.dir_A (I : Inv m n A c S) {s : Nat} (hs : s < n + 1) : ∀ i, i < m → dot n (A i) (dir m S s) = 0 := (I.ker _).mp (I.dir_ker hs)
theorem Inv.dir_z (I : Inv m n A c S) {s : Nat} (hs : s < n + 1) : dot n S.z (dir m S s) = S.z s := by
  rw [dot_dir _ hs I.bas, sm_zero (fun k hk => by rw [I.zb k hk]; grind)]; grind
/-- each entry of the objective's row by the entries of the body -/
theorem Inv.z_eq (I : Inv m n A c S) {s : Nat} (hs : s < n + 1) : S.z s = c s - sm m (fun k => c (S.b k) * S.T k s) := by
  rw [← I.dir_z hs, I.obj _ (I.dir_A hs), dot_dir _ hs I.bas]
/-- each column by the columns of the base -/
theorem Inv.col_eq (I : Inv m n A c S) {s : Nat} (hs : s < n + 1) : ∀ i, i < m → sm m (fun k => A i (S.b k) * S.T k s) = A i s := by
  intro i hi
  have h := I.dir_A hs i hi
  rw [dot_dir _ hs I.bas] at h
  grind
/-- the base's columns are independent -/
theorem Inv.indep (I : Inv m n A c S) (y : Nat → Rat) (h : ∀ i, i < m → sm m (fun k => A i (S.b k) * y k) = 0) : ∀ k, k < m → y k = 0 := by
  have dv : ∀ x : Nat → Rat, dot n x (fun j => sm m (fun k => if j = S.b k then y k else 0)) = sm m (fun k => x (S.b k) * y k) := by
    intro x
    unfold dot
    have e : ∀ j, j < n + 1 → x j * sm m (fun k => if j = S.b k then y k else 0) = sm m (fun k => if j = S.b k then x j * y k else 0) := by
      intro j _
      rw [← sm_mul]
      exact sm_congr fun k _ => by split <;> grind
    rw [sm_congr e, sm_swap]
    exact sm_congr fun k hk => by rw [sm_single (fun j => x j * y k) (by have := I.bas k hk; omega)]
  have k1 := (I.ker (fun j => sm m (fun k => if j = S.b k then y k else 0))).mpr (fun i hi => by rw [dv]; exact h i hi)
  intro k hk
  have k2 := k1 k hk
  rw [dv] at k2
  rw [← k2, ← sm_single y hk]
  exact sm_congr fun l hl => by
    rw [I.unit k hk l hl]
    by_cases e : l = k
    · subst e; simp
    · rw [if_neg e, if_neg (fun h => e h.symm)]; grind
theorem Inv.inj (I : Inv m n A c S) {i k : Nat} (hi : i < m) (hk : k < m) (e : S.b i = S.b k) : i = k := by
  have a := I.unit i hi k hk
  rw [← e, I.unit i hi i hi, if_pos rfl] at a
  apply Classical.byContradiction
  intro h
  rw [if_neg h] at a
  grind
/-! ### a turn -/
def pivot (S : Tab) (r s : Nat) : Tab where
  T := fun i j => if i = r then S.T r j / S.T r s else S.T i j - S.T i s * (S.T r j / S.T r s)
  z := fun j => S.z j - S.z s * (S.T r j / S.T r s)
  b := fun i => if i = r then s else S.b i
/-- the least ratio at r -/
def MinRatio (m n : Nat) (S : Tab) (r s : Nat) : Prop := ∀ i, i < m → 0 < S.T i s → S.T r n / S.T r s ≤ S.T i n / S.T i s
theorem dot_sub (x y v : Nat → Rat) (k : Rat) : dot n (fun j => x j - k * y j) v = dot n x v - k * dot n y v := by
  unfold dot
  rw [← sm_mul, ← sm_sub]
  exact sm_congr fun j _ => by grind
theorem dot_scale (x v : Nat → Rat) (k : Rat) : dot n (fun j => k * x j) v = k * dot n x v := by
  unfold dot
  rw [← sm_mul]
  exact sm_congr fun j _ => by grind
theorem div_pos {a b : Rat} (ha : 0 < a) (hb : 0 < b) : 0 < a / b := by
  rw [Rat.lt_div_iff hb]; grind
theorem div_nonneg {a b : Rat} (ha : 0 ≤ a) (hb : 0 < b) : 0 ≤ a / b := by
  rw [Rat.div_def]
  exact Rat.mul_nonneg ha (Rat.le_of_lt (Rat.inv_pos.mpr hb))
theorem div_le_mul {a b c : Rat} (hc : 0 < c) (h : a ≤ b / c) : a * c ≤ b := by
  have := Rat.mul_le_mul_of_nonneg_right h (Rat.le_of_lt hc)
  rw [Rat.div_mul_cancel (by grind)] at this
  exact this
theorem Inv.pivot (I : Inv m n A c S) {r s : Nat} (hr : r < m) (hs : s < n) (hp : 0 < S.T r s) (hz : S.z s ≠ 0) (hm : MinRatio m n S r s) : Inv m n A c (pivot S r s) := by
  have sb : ∀ k, k < m → S.b k ≠ s := fun k hk e => hz (by rw [← e]; exact I.zb k hk)
  have eT : ∀ i v, dot n ((Bl.pivot S r s).T i) v = if i = r then (S.T r s)⁻¹ * dot n (S.T r) v else dot n (S.T i) v - (S.T i s / S.T r s) * dot n (S.T r) v := by
    intro i v
    by_cases e : i = r
    · rw [if_pos e, ← dot_scale]
      unfold dot
      exact sm_congr fun j _ => by simp only [Bl.pivot, e, if_true]; grind
    · rw [if_neg e, ← dot_sub]
      unfold dot
      exact sm_congr fun j _ => by simp only [Bl.pivot, e, if_false]; grind
  refine ⟨fun v => ⟨fun h => ?_, fun h => ?_⟩, fun v h => ?_, ?_, ?_, ?_, ?_⟩
  · have h0 : dot n (S.T r) v = 0 := by
      have a := h r hr
      rw [eT, if_pos rfl] at a
      have : S.T r s * ((S.T r s)⁻¹ * dot n (S.T r) v) = 0 := by rw [a]; grind
      grind
    refine (I.ker v).mp fun i hi => ?_
    have a := h i hi
    rw [eT] at a
    by_cases e : i = r
    · rw [e]; exact h0
    · rw [if_neg e, h0] at a; grind
  · have h1 := (I.ker v).mpr h
    intro i hi
    rw [eT, h1 r hr, h1 i hi]
    split <;> grind
  · have h1 := (I.ker v).mpr h
    have e : dot n (Bl.pivot S r s).z v = dot n S.z v - (S.z s / S.T r s) * dot n (S.T r) v := by
      rw [← dot_sub]
      unfold dot
      exact sm_congr fun j _ => by simp only [Bl.pivot]; grind
    rw [e, h1 r hr, I.obj v h]; grind
  · intro i hi
    simp only [Bl.pivot]
    split
    · exact hs
    · exact I.bas i hi
  · intro i hi k hk
    by_cases ek : k = r
    · have e1 : (Bl.pivot S r s).b k = s := by simp only [Bl.pivot, ek, if_true]
      rw [e1, ek]
      simp only [Bl.pivot]
      by_cases ei : i = r
      · rw [if_pos ei, if_pos ei]; grind
      · rw [if_neg ei, if_neg ei]; grind
    · have e1 : (Bl.pivot S r s).b k = S.b k := by simp only [Bl.pivot, ek, if_false]
      have e2 : S.T r (S.b k) = 0 := by rw [I.unit r hr k hk, if_neg (fun h => ek h.symm)]
      rw [e1]
      simp only [Bl.pivot]
      by_cases ei : i = r
      · rw [if_pos ei, if_neg (by omega), e2]; grind
      · rw [if_neg ei, e2, I.unit i hi k hk]; grind
  · intro k hk
    by_cases ek : k = r
    · have e1 : (Bl.pivot S r s).b k = s := by simp only [Bl.pivot, ek, if_true]
      rw [e1]
      simp only [Bl.pivot]; grind
    · have e1 : (Bl.pivot S r s).b k = S.b k := by simp only [Bl.pivot, ek, if_false]
      have e2 : S.T r (S.b k) = 0 := by rw [I.unit r hr k hk, if_neg (fun h => ek h.symm)]
      rw [e1]
      simp only [Bl.pivot]
      rw [e2, I.zb k hk]; grind
  · intro i hi
    simp only [Bl.pivot]
    have q := div_nonneg (I.feas r hr) hp
    by_cases ei : i = r
    · rw [if_pos ei]; exact q
    · rw [if_neg ei]
      by_cases hT : 0 < S.T i s
      · have a := div_le_mul hT (hm i hi hT)
        grind
      · have a : 0 ≤ (-(S.T i s)) * (S.T r n / S.T r s) := Rat.mul_nonneg (by grind) q
        have b := I.feas i hi
        grind
/-! ### something bounds each column -/
theorem Inv.bounded (I : Inv m n A c S) (hA : ∀ i, i < m → ∀ j, j < n → 0 ≤ A i j) (hC : ∀ j, j < n → ∃ i, i < m ∧ 0 < A i j) {s : Nat} (hs : s < n) (hz : S.z s ≠ 0) : ∃ r, r < m ∧ 0 < S.T r s := by
  apply Classical.byContradiction
  intro h
  have hT : ∀ k, k < m → 0 ≤ -(S.T k s) := fun k hk => by
    apply Classical.byContradiction
    intro e
    exact h ⟨k, hk, by grind⟩
  have sb : ∀ k, k < m → S.b k ≠ s := fun k hk e => hz (by rw [← e]; exact I.zb k hk)
  have dn : ∀ j, 0 ≤ dir m S s j := by
    intro j
    have e : 0 ≤ sm m (fun k => if j = S.b k then -(S.T k s) else 0) := sm_nonneg fun k hk => by
      split
      · exact hT k hk
      · grind
    have e2 : sm m (fun k => if j = S.b k then -(S.T k s) else 0) = -1 * sm m (fun k => if j = S.b k then S.T k s else 0) := by
      rw [← sm_mul]
      exact sm_congr fun k _ => by split <;> grind
    unfold dir
    split <;> grind
  have ds : dir m S s s = 1 := by
    unfold dir
    rw [if_pos rfl, sm_zero (fun k hk => if_neg (fun e => sb k hk e.symm))]; grind
  have dN : dir m S s n = 0 := by
    unfold dir
    rw [if_neg (by omega), sm_zero (fun k hk => if_neg (by have := I.bas k hk; omega))]; grind
  obtain ⟨i, hi, hp⟩ := hC s hs
  have z := I.dir_A (s := s) (by omega) i hi
  have p : 0 < dot n (A i) (dir m S s) := by
    unfold dot
    refine sm_pos (k := s) (fun j hj => ?_) (by omega) (by rw [ds]; grind)
    by_cases e : j = n
    · rw [e, dN]; grind
    · exact Rat.mul_nonneg (hA i hi j (by omega)) (dn j)
  grind
end
/-! ### Bland's rule -/
/-- the turn at row r and column s goes by Bland's rule -/
structure Bland (m n : Nat) (S : Tab) (r s : Nat) : Prop where
  hr : r < m
  hs : s < n
  neg : S.z s < 0
  first : ∀ j, j < s → 0 ≤ S.z j
  pos : 0 < S.T r s
  least : MinRatio m n S r s
  tie : ∀ i, i < m → 0 < S.T i s → S.T i n / S.T i s = S.T r n / S.T r s → S.b r ≤ S.b i
/-- the value of each variable -/
def val (m n : Nat) (S : Tab) (j : Nat) : Rat := sm m (fun i => if S.b i = j then S.T i n else 0)
section
variable {m n : Nat} {A : Nat → Nat → Rat} {c : Nat → Rat}
theorem Inv.val_at {S : Tab} (I : Inv m n A c S) {i : Nat} (hi : i < m) : val m n S (S.b i) = S.T i n := by
  unfold val
  rw [← sm_single (fun k => S.T k n) hi]
  exact sm_congr fun k hk => by
    by_cases e : k = i
    · rw [if_pos e, if_pos (by rw [e])]
    · rw [if_neg e, if_neg (fun h => e (I.inj hk hi h))]
theorem val_off {S : Tab} {j : Nat} (h : ∀ k, k < m → S.b k ≠ j) : val m n S j = 0 := sm_zero fun k hk => if_neg (h k hk)
/-- the heart: t leaves in one tableau and comes in another one, nothing above t differs: that can't be -/
theorem clash {S1 S2 : Tab} {r s t r2 : Nat} (I1 : Inv m n A c S1) (I2 : Inv m n A c S2) (B1 : Bland m n S1 r s) (B2 : Bland m n S2 r2 t) (ht : S1.b r = t) (hst : s ≤ t)
    (hab : ∀ j, t < j → ∀ i, i < m → S1.b i = j → ∃ k, k < m ∧ S2.b k = j)
    (hval : ∀ j, val m n S1 j = val m n S2 j) : False := by
  have hsn : s < n + 1 := by have := B1.hs; omega
  have e1 := I1.dir_z hsn
  have e2 : dot n S2.z (dir m S1 s) = S1.z s := by rw [I2.obj _ (I1.dir_A hsn), ← I1.obj _ (I1.dir_A hsn), e1]
  rw [dot_dir _ hsn I1.bas] at e2
  have neg := B1.neg
  -- S2.z s - sum of S2.z (b1 k) * T1 k s < 0
  by_cases hs0 : S2.z s < 0
  · -- then s is t, for all ahead of t are not below 0
    have h3 : s = t := by
      apply Classical.byContradiction
      intro h
      have := B2.first s (by omega)
      grind
    have : S1.z (S1.b r) = 0 := I1.zb r B1.hr
    rw [ht, ← h3] at this
    grind
  · have : sm m (fun k => -(S2.z (S1.b k) * S1.T k s)) < 0 := by
      have e : sm m (fun k => -(S2.z (S1.b k) * S1.T k s)) = -1 * sm m (fun k => S2.z (S1.b k) * S1.T k s) := by
        rw [← sm_mul]
        exact sm_congr fun k _ => by grind
      grind
    obtain ⟨k, hk, hn⟩ := sm_neg this
    have hpr : 0 < S2.z (S1.b k) * S1.T k s := by grind
    have hz : S2.z (S1.b k) ≠ 0 := fun h => by rw [h] at hpr; grind
    have hoff : ∀ l, l < m → S2.b l ≠ S1.b k := fun l hl e => hz (by rw [← e]; exact I2.zb l hl)
    have hle : S1.b k ≤ t := by
      apply Classical.byContradiction
      intro h
      obtain ⟨l, hl, e⟩ := hab (S1.b k) (by omega) k hk rfl
      exact hoff l hl e
    by_cases hkt : S1.b k = t
    · have : k = r := I1.inj hk B1.hr (by rw [hkt, ht])
      have a := B2.neg
      have b := B1.pos
      rw [hkt, this] at hpr
      have : 0 < -(S2.z t) * S1.T r s := Rat.mul_pos (by grind) b
      grind
    · have h0 := B2.first (S1.b k) (by omega)
      have hzp : 0 < S2.z (S1.b k) := by grind
      have hTp : 0 < S1.T k s := (Rat.mul_pos_iff_of_pos_left hzp).mp hpr
      have hv : S1.T k n = 0 := by
        rw [← I1.val_at hk, hval, val_off hoff]
      have q := B1.least k hk hTp
      rw [hv] at q
      have q0 := div_nonneg (I1.feas r B1.hr) B1.pos
      have e0 : (0 : Rat) / S1.T k s = 0 := by grind
      have tie := B1.tie k hk hTp (by rw [hv]; grind)
      rw [ht] at tie
      omega
/-- a turn of the height 0 leaves all values -/
theorem val_pivot {S : Tab} {r s : Nat} (I : Inv m n A c S) (B : Bland m n S r s) (h0 : S.T r n = 0) : ∀ j, val m n (pivot S r s) j = val m n S j := by
  intro j
  unfold val
  refine sm_congr fun i hi => ?_
  by_cases e : i = r
  · have a : (pivot S r s).T i n = 0 := by simp only [pivot, e, if_true, h0]; grind
    have b : S.T i n = 0 := by rw [e, h0]
    rw [a, b]
    split <;> split <;> rfl
  · have a : (pivot S r s).T i n = S.T i n := by simp only [pivot, e, if_false, h0]; grind
    have b : (pivot S r s).b i = S.b i := by simp only [pivot, e, if_false]
    rw [a, b]
end
/-! ### how long a run can be -/
/-- a run of steps, each touching some numbers below n, and between two that touch t one that touches a greater one: less than 2 ^ n steps -/
theorem run_short (touch : Nat → Nat → Prop) (L : Nat) : ∀ n lo len, lo + len ≤ L → (∀ k, lo ≤ k → k < lo + len → ∃ t, touch k t) → (∀ k t, lo ≤ k → k < lo + len → touch k t → t < n) →
    (∀ k k' t, k < k' → k' < L → touch k t → touch k' t → ∃ l u, k ≤ l ∧ l ≤ k' ∧ touch l u ∧ t < u) → len < 2 ^ n := by
  intro n
  induction n with
  | zero =>
    intro lo len _ h1 h2 _
    cases len with
    | zero => decide
    | succ len =>
      obtain ⟨t, ht⟩ := h1 lo (Nat.le_refl _) (by omega)
      have := h2 lo t (Nat.le_refl _) (by omega) ht
      omega
  | succ n ih =>
    intro lo len hL h1 h2 h3
    have p : 2 ^ (n + 1) = 2 ^ n + 2 ^ n := by rw [Nat.pow_succ]; omega
    by_cases hex : ∃ k, lo ≤ k ∧ k < lo + len ∧ touch k n
    · obtain ⟨k, ha, hb, hc⟩ := hex
      have only : ∀ k', lo ≤ k' → k' < lo + len → touch k' n → k' = k := by
        intro k' a' b' c'
        apply Classical.byContradiction
        intro ne
        rcases Nat.lt_or_gt_of_ne ne with h | h
        · obtain ⟨l, u, x1, x2, x3, x4⟩ := h3 k' k n h (by omega) c' hc
          have := h2 l u (by omega) (by omega) x3
          omega
        · obtain ⟨l, u, x1, x2, x3, x4⟩ := h3 k k' n h (by omega) hc c'
          have := h2 l u (by omega) (by omega) x3
          omega
      have a := ih lo (k - lo) (by omega) (fun k' x y => h1 k' x (by omega)) (fun k' t x y z => by
        have := h2 k' t x (by omega) z
        by_cases e : t = n
        · have := only k' x (by omega) (by rw [← e]; exact z)
          omega
        · omega) h3
      have b := ih (k + 1) (lo + len - (k + 1)) (by omega) (fun k' x y => h1 k' (by omega) (by omega)) (fun k' t x y z => by
        have := h2 k' t (by omega) (by omega) z
        by_cases e : t = n
        · have := only k' (by omega) (by omega) (by rw [← e]; exact z)
          omega
        · omega) h3
      omega
    · have a := ih lo len hL h1 (fun k t x y z => by
        have := h2 k t x y z
        by_cases e : t = n
        · exact (hex ⟨k, x, y, by rw [← e]; exact z⟩).elim
        · omega) h3
      omega
end Bl

/-! Plain law: the one solution of a system with small whole coefficients is a fraction of small whole numbers. -/
namespace Bl
def smI : Nat → (Nat → Int) → Int
  | 0, _ => 0
  | n + 1, f => smI n f + f n
theorem smI_cast (n : Nat) (f : Nat → Int) : ((smI n f : Int) : Rat) = sm n (fun j => (f j : Rat)) := by
  induction n with
  | zero => rfl
  | succ n ih => simp only [smI, sm]; rw [Rat.intCast_add, ih]
theorem smI_le {n B : Nat} {f : Nat → Int} (h : ∀ j, j < n → (f j).natAbs ≤ B) : (smI n f).natAbs ≤ n * B := by
  induction n with
  | zero => simp [smI]
  | succ n ih =>
    simp only [smI]
    have a := ih (fun j hj => h j (by omega))
    have b := h n (by omega)
    have c := Int.natAbs_add_le (smI n f) (f n)
    rw [Nat.succ_mul]
    omega
def bnd : Nat → Nat → Nat
  | 0, _ => 1
  | k + 1, C => C * (k + 1) * bnd k (2 * C * C)
theorem natAbs_mul_le {a b : Int} {A B : Nat} (ha : a.natAbs ≤ A) (hb : b.natAbs ≤ B) : (a * b).natAbs ≤ A * B := by
  rw [Int.natAbs_mul]
  exact Nat.mul_le_mul ha hb
theorem lin : ∀ (k m : Nat) (a : Nat → Nat → Int) (r : Nat → Int) (C : Nat), (∀ i, i < m → ∀ j, j < k → (a i j).natAbs ≤ C) → (∀ i, i < m → (r i).natAbs ≤ C) →
    (∀ y : Nat → Rat, (∀ i, i < m → sm k (fun j => (a i j : Rat) * y j) = 0) → ∀ j, j < k → y j = 0) →
    ∀ x : Nat → Rat, (∀ i, i < m → sm k (fun j => (a i j : Rat) * x j) = (r i : Rat)) →
    ∃ D : Int, 0 < D ∧ D.natAbs ≤ bnd k C ∧ ∃ N : Nat → Int, ∀ j, j < k → (D : Rat) * x j = (N j : Rat) ∧ (N j).natAbs ≤ bnd k C := by
  intro k
  induction k with
  | zero => intro m a r C _ _ _ x _; exact ⟨1, by decide, Nat.le_refl 1, fun _ => 0, fun j hj => absurd hj (by omega)⟩
  | succ k ih =>
    intro m a r C ha hr un x hx
    -- a row p in which the last unknown stands
    obtain ⟨p, hp, hq⟩ : ∃ p, p < m ∧ a p k ≠ 0 := by
      apply Classical.byContradiction
      intro h
      have h0 : ∀ i, i < m → a i k = 0 := fun i hi => by
        apply Classical.byContradiction
        intro e
        exact h ⟨i, hi, e⟩
      have := un (fun j => if j = k then 1 else 0) (fun i hi => by
        simp only [sm]
        rw [h0 i hi, sm_zero (fun j hj => by rw [if_neg (by omega)]; grind)]
        simp; grind) k (by omega)
      simp at this
    have qr : ((a p k : Int) : Rat) ≠ 0 := fun e => hq (Rat.intCast_eq_zero_iff.mp e)
    -- the system without it
    have e1 : ∀ (y : Nat → Rat) (i : Nat), sm k (fun j => ((a p k * a i j - a i k * a p j : Int) : Rat) * y j) = (a p k : Rat) * sm k (fun j => (a i j : Rat) * y j) - (a i k : Rat) * sm k (fun j => (a p j : Rat) * y j) := by
      intro y i
      rw [← sm_mul, ← sm_mul, ← sm_sub]
      exact sm_congr fun j _ => by rw [Rat.intCast_sub, Rat.intCast_mul, Rat.intCast_mul]; grind
    obtain ⟨D, hD, hDb, N, hN⟩ := ih m (fun i j => a p k * a i j - a i k * a p j) (fun i => a p k * r i - a i k * r p) (2 * C * C)
      (fun i hi j hj => by
        have u := natAbs_mul_le (ha p hp k (by omega)) (ha i hi j (by omega))
        have v := natAbs_mul_le (ha i hi k (by omega)) (ha p hp j (by omega))
        have z := Int.natAbs_sub_le (a p k * a i j) (a i k * a p j)
        have w : 2 * C * C = C * C + C * C := by rw [Nat.mul_assoc]; omega
        show (a p k * a i j - a i k * a p j).natAbs ≤ 2 * C * C
        omega)
      (fun i hi => by
        have u := natAbs_mul_le (ha p hp k (by omega)) (hr i hi)
        have v := natAbs_mul_le (ha i hi k (by omega)) (hr p hp)
        have z := Int.natAbs_sub_le (a p k * r i) (a i k * r p)
        have w : 2 * C * C = C * C + C * C := by rw [Nat.mul_assoc]; omega
        show (a p k * r i - a i k * r p).natAbs ≤ 2 * C * C
        omega)
      (fun y hy j hj => by
        have := un (fun j => if j = k then -(sm k (fun j => (a p j : Rat) * y j)) / (a p k : Rat) else y j) (fun i hi => by
          have z := hy i hi
          rw [e1 y i] at z
          show sm k (fun j => (a i j : Rat) * (if j = k then -(sm k (fun j => (a p j : Rat) * y j)) / (a p k : Rat) else y j)) + (a i k : Rat) * (if k = k then -(sm k (fun j => (a p j : Rat) * y j)) / (a p k : Rat) else y k) = 0
          rw [if_pos rfl, sm_congr (g := fun j => (a i j : Rat) * y j) (fun j hj => by rw [if_neg (by omega)])]
          generalize sm k (fun j => (a i j : Rat) * y j) = s1 at z ⊢
          generalize sm k (fun j => (a p j : Rat) * y j) = s2 at z ⊢
          generalize (a i k : Rat) = b at z ⊢
          generalize (a p k : Rat) = q at z qr ⊢
          grind) j (by omega)
        rw [if_neg (by omega)] at this
        exact this)
      x (fun i hi => by
        rw [e1 x i]
        have z1 := hx i hi
        have z2 := hx p hp
        simp only [sm] at z1 z2
        rw [Rat.intCast_sub, Rat.intCast_mul, Rat.intCast_mul, ← z1, ← z2]
        grind)
    have pos : ∃ s : Int, (s = 1 ∨ s = -1) ∧ ((a p k).natAbs : Int) = s * a p k := by
      rcases Int.lt_or_lt_of_ne hq with h | h
      · exact ⟨-1, .inr rfl, by omega⟩
      · exact ⟨1, .inl rfl, by omega⟩
    obtain ⟨s, hs, es⟩ := pos
    have hsa : s.natAbs = 1 := by rcases hs with e | e <;> rw [e] <;> rfl
    have hap := ha p hp k (by omega)
    have p0 : 0 < (a p k).natAbs := by omega
    have hb : C * bnd k (2 * C * C) ≤ bnd (k + 1) C := by
      show C * bnd k (2 * C * C) ≤ C * (k + 1) * bnd k (2 * C * C)
      exact Nat.mul_le_mul_right _ (Nat.le_mul_of_pos_right _ (by omega))
    refine ⟨((a p k).natAbs : Int) * D, Int.mul_pos (by omega) hD, Nat.le_trans (natAbs_mul_le (by simpa using hap) hDb) hb,
      fun j => if j = k then s * (D * r p - smI k (fun j => a p j * N j)) else ((a p k).natAbs : Int) * N j, fun j hj => ?_⟩
    dsimp only
    by_cases e : j = k
    · subst e
      rw [if_pos rfl]
      constructor
      · have z2 := hx p hp
        simp only [sm] at z2
        have z3 : (D : Rat) * sm j (fun j => (a p j : Rat) * x j) = sm j (fun j => ((a p j * N j : Int) : Rat)) := by
          rw [← sm_mul]
          exact sm_congr fun l hl => by
            rw [Rat.intCast_mul, ← (hN l hl).1]; grind
        rw [es, Rat.intCast_mul, Rat.intCast_mul, Rat.intCast_mul, Rat.intCast_sub, Rat.intCast_mul, smI_cast, ← z3, ← z2]
        grind
      · have u : (smI j (fun j_1 => a p j_1 * N j_1)).natAbs ≤ j * (C * bnd j (2 * C * C)) := smI_le fun l hl => natAbs_mul_le (ha p hp l (by omega)) (hN l hl).2
        have v := natAbs_mul_le hDb (hr p hp)
        have w := Int.natAbs_sub_le (D * r p) (smI j (fun j_1 => a p j_1 * N j_1))
        rw [Int.natAbs_mul, hsa, Nat.one_mul]
        show _ ≤ C * (j + 1) * bnd j (2 * C * C)
        have e2 : C * (j + 1) * bnd j (2 * C * C) = j * (C * bnd j (2 * C * C)) + bnd j (2 * C * C) * C := by
          rw [Nat.mul_add, Nat.add_mul, Nat.mul_one, Nat.mul_comm C j, Nat.mul_assoc, Nat.mul_comm (bnd j (2 * C * C)) C]
        omega
    · rw [if_neg e]
      have z := hN j (by omega)
      constructor
      · rw [Rat.intCast_mul, Rat.intCast_mul, ← z.1]; grind
      · exact Nat.le_trans (natAbs_mul_le (by simpa using hap) z.2) hb
end Bl

/-! Plain law: entries are small, Bland's rule ends. -/
namespace Bl
/-- D q is the whole number N -/
structure Fr (B C : Nat) (q : Rat) : Prop where
  ex : ∃ D N : Int, 0 < D ∧ D.natAbs ≤ B ∧ (D : Rat) * q = (N : Rat) ∧ N.natAbs ≤ C
theorem frac_of {D N : Int} {q : Rat} (hD : 0 < D) (e : (D : Rat) * q = (N : Rat)) : q.den ≤ D.natAbs ∧ q.num.natAbs ≤ N.natAbs := by
  have d0 : (D : Rat) ≠ 0 := fun h => by have := Rat.intCast_eq_zero_iff.mp h; omega
  have e2 : q = Rat.divInt N D := by
    rw [Rat.divInt_eq_div, ← e]; grind
  constructor
  · rw [e2, Rat.den_divInt, if_neg (by omega)]
    exact Nat.div_le_self _ _
  · rw [e2, Rat.num_divInt, Int.sign_eq_one_of_pos hD, Int.one_mul]
    exact Int.natAbs_ediv_le_natAbs _ _
theorem Fr.num {B C : Nat} {q : Rat} (h : Fr B C q) : q.num.natAbs ≤ C := by
  obtain ⟨D, N, h1, h2, h3, h4⟩ := h.ex
  exact Nat.le_trans (frac_of h1 h3).2 h4
theorem Fr.den {B C : Nat} {q : Rat} (h : Fr B C q) : q.den ≤ B := by
  obtain ⟨D, N, h1, h2, h3, h4⟩ := h.ex
  exact Nat.le_trans (frac_of h1 h3).1 h2
structure Sys (m n W : Nat) (A : Nat → Nat → Rat) (c : Nat → Rat) : Prop where
  ent : ∀ i, i < m → ∀ j, j < n + 1 → A i j = 0 ∨ A i j = 1
  cov : ∀ j, j < n → ∃ i, i < m ∧ 0 < A i j
  obj : ∀ j, j < n + 1 → ∃ N : Int, c j = (N : Rat) ∧ N.natAbs ≤ W
section
variable {m n W : Nat} {A : Nat → Nat → Rat} {c : Nat → Rat}
def bT (m : Nat) : Nat := bnd m 1
def bZ (m W : Nat) : Nat := bnd m 1 * W + m * (W * bnd m 1)
theorem Inv.cols (Y : Sys m n W A c) {S : Tab} (I : Inv m n A c S) {s : Nat} (hs : s < n + 1) :
    ∃ D : Int, 0 < D ∧ D.natAbs ≤ bT m ∧ ∃ N : Nat → Int, ∀ i, i < m → (D : Rat) * S.T i s = (N i : Rat) ∧ (N i).natAbs ≤ bT m := by
  have aI : ∀ i, i < m → ∀ j, j < n + 1 → A i j = (((A i j).num : Int) : Rat) ∧ (A i j).num.natAbs ≤ 1 := by
    intro i hi j hj
    rcases Y.ent i hi j hj with e | e <;> rw [e] <;> exact ⟨rfl, by decide⟩
  refine lin m m (fun i k => (A i (S.b k)).num) (fun i => (A i s).num) 1 (fun i hi k hk => (aI i hi _ (by have := I.bas k hk; omega)).2) (fun i hi => (aI i hi s hs).2) (fun y hy => ?_) (fun k => S.T k s) (fun i hi => ?_)
  · refine I.indep y fun i hi => ?_
    rw [← hy i hi]
    exact sm_congr fun k hk => by rw [← (aI i hi _ (by have := I.bas k hk; omega)).1]
  · rw [← (aI i hi s hs).1, ← I.col_eq hs i hi]
    exact sm_congr fun k hk => by rw [← (aI i hi _ (by have := I.bas k hk; omega)).1]
theorem Inv.frT (Y : Sys m n W A c) {S : Tab} (I : Inv m n A c S) {i s : Nat} (hi : i < m) (hs : s < n + 1) : Fr (bT m) (bT m) (S.T i s) := by
  obtain ⟨D, h1, h2, N, h3⟩ := I.cols Y hs
  exact ⟨D, N i, h1, h2, (h3 i hi).1, (h3 i hi).2⟩
theorem Inv.frZ (Y : Sys m n W A c) {S : Tab} (I : Inv m n A c S) {s : Nat} (hs : s < n + 1) : Fr (bT m) (bZ m W) (S.z s) := by
  obtain ⟨D, h1, h2, N, h3⟩ := I.cols Y hs
  have cI : ∀ j, j < n + 1 → c j = (((c j).num : Int) : Rat) ∧ (c j).num.natAbs ≤ W := by
    intro j hj
    obtain ⟨N, e, h⟩ := Y.obj j hj
    rw [e]
    exact ⟨rfl, h⟩
  refine ⟨D, D * (c s).num - smI m (fun k => (c (S.b k)).num * N k), h1, h2, ?_, ?_⟩
  · rw [I.z_eq hs, Rat.intCast_sub, Rat.intCast_mul, smI_cast, ← (cI s hs).1]
    have e : (D : Rat) * sm m (fun k => c (S.b k) * S.T k s) = sm m (fun k => (((c (S.b k)).num * N k : Int) : Rat)) := by
      rw [← sm_mul]
      exact sm_congr fun k hk => by
        rw [Rat.intCast_mul, ← (cI (S.b k) (by have := I.bas k hk; omega)).1, ← (h3 k hk).1]; grind
    rw [← e]; grind
  · have u := natAbs_mul_le h2 (cI s hs).2
    have v : (smI m (fun k => (c (S.b k)).num * N k)).natAbs ≤ m * (W * bT m) := smI_le fun k hk => natAbs_mul_le (cI (S.b k) (by have := I.bas k hk; omega)).2 (h3 k hk).2
    have w := Int.natAbs_sub_le (D * (c s).num) (smI m (fun k => (c (S.b k)).num * N k))
    unfold bZ
    unfold bT at u v
    omega
/-! ### a run without end -/
def fact : Nat → Nat
  | 0 => 1
  | n + 1 => (n + 1) * fact n
theorem fact_pos : ∀ n, 0 < fact n
  | 0 => by decide
  | n + 1 => Nat.mul_pos (by omega) (fact_pos n)
theorem fact_dvd {d : Nat} : ∀ {n : Nat}, 0 < d → d ≤ n → d ∣ fact n
  | 0, h1, h2 => by omega
  | n + 1, h1, h2 => by
    by_cases e : d = n + 1
    · rw [e]; exact ⟨fact n, rfl⟩
    · obtain ⟨k, hk⟩ := fact_dvd (n := n) h1 (by omega)
      exact ⟨(n + 1) * k, by show (n + 1) * fact n = _; rw [hk]; exact Nat.mul_left_comm _ _ _⟩
/-- times a fixed number: a whole number, bounded -/
theorem Fr.whole {B C : Nat} {q : Rat} (h : Fr B C q) : ∃ N : Int, ((fact B : Int) : Rat) * q = (N : Rat) ∧ N ≤ (fact B * C : Nat) := by
  obtain ⟨D, N, h1, h2, h3, h4⟩ := h.ex
  obtain ⟨k, hk⟩ := fact_dvd (d := D.natAbs) (n := B) (by omega) h2
  have e : (fact B : Int) = D * k := by rw [hk, Int.natCast_mul]; congr 1; omega
  refine ⟨k * N, ?_, ?_⟩
  · rw [e, Rat.intCast_mul, Rat.intCast_mul, ← h3]; grind
  · have a : (k : Int) * N ≤ (k * C : Nat) := by
      rw [Int.natCast_mul]
      exact Int.mul_le_mul_of_nonneg_left (by omega) (by omega)
    have b : k * C ≤ fact B * C := Nat.mul_le_mul_right _ (by rw [hk]; exact Nat.le_mul_of_pos_left _ (by omega))
    omega
theorem change {P : Nat → Prop} {a b : Nat} (h : a ≤ b) (ha : P a) (hb : ¬ P b) : ∃ l, a ≤ l ∧ l < b ∧ P l ∧ ¬ P (l + 1) := by
  induction b with
  | zero => exact absurd (by rw [show (0 : Nat) = a by omega]; exact ha) hb
  | succ b ih =>
    by_cases e : a = b + 1
    · exact absurd (by rw [← e]; exact ha) hb
    · by_cases p : P b
      · exact ⟨b, by omega, by omega, p, hb⟩
      · obtain ⟨l, x1, x2, x3, x4⟩ := ih (by omega) p
        exact ⟨l, x1, by omega, x3, x4⟩
def inB (m : Nat) (S : Tab) (j : Nat) : Prop := ∃ i, i < m ∧ S.b i = j
theorem inB_pivot {S : Tab} {r s j : Nat} (I : Inv m n A c S) (B : Bland m n S r s) (h1 : j ≠ s) (h2 : j ≠ S.b r) : inB m (pivot S r s) j ↔ inB m S j := by
  constructor
  · rintro ⟨i, hi, e⟩
    simp only [pivot] at e
    by_cases x : i = r
    · rw [if_pos x] at e; exact absurd e.symm h1
    · rw [if_neg x] at e; exact ⟨i, hi, e⟩
  · rintro ⟨i, hi, e⟩
    refine ⟨i, hi, ?_⟩
    simp only [pivot]
    rw [if_neg (fun x => h2 (by rw [← e, x]))]
    exact e
theorem Bland.out {S : Tab} {r s : Nat} (I : Inv m n A c S) (B : Bland m n S r s) : ¬ inB m S s := by
  rintro ⟨i, hi, e⟩
  have := I.zb i hi
  rw [e] at this
  have := B.neg
  grind
theorem Bland.came {S : Tab} {r s : Nat} (B : Bland m n S r s) : inB m (pivot S r s) s := ⟨r, B.hr, by simp only [pivot, if_true]⟩
theorem Bland.left {S : Tab} {r s : Nat} (I : Inv m n A c S) (B : Bland m n S r s) : ¬ inB m (pivot S r s) (S.b r) := by
  rintro ⟨i, hi, e⟩
  simp only [pivot] at e
  by_cases x : i = r
  · rw [if_pos x] at e
    exact B.out I ⟨r, B.hr, e.symm⟩
  · rw [if_neg x] at e
    exact x (I.inj hi B.hr e)
theorem Bland.next {S : Tab} {r s : Nat} (I : Inv m n A c S) (B : Bland m n S r s) : Inv m n A c (pivot S r s) := I.pivot B.hr B.hs B.pos (by have := B.neg; grind) B.least
/-- the objective grows, or the turn has no height -/
theorem Bland.grow {S : Tab} {r s : Nat} (I : Inv m n A c S) (B : Bland m n S r s) : S.z n ≤ (pivot S r s).z n ∧ (S.T r n ≠ 0 → S.z n < (pivot S r s).z n) := by
  have f := I.feas r B.hr
  have neg := B.neg
  have e : (pivot S r s).z n = S.z n + (-(S.z s)) * (S.T r n / S.T r s) := by simp only [pivot]; grind
  rw [e]
  constructor
  · have := Rat.mul_nonneg (a := -(S.z s)) (by grind) (div_nonneg f B.pos)
    grind
  · intro h
    have := Rat.mul_pos (a := -(S.z s)) (by grind) (div_pos (b := S.T r s) (a := S.T r n) (by grind) B.pos)
    grind
structure Run (m n : Nat) (A : Nat → Nat → Rat) (c : Nat → Rat) (S : Nat → Tab) (r s : Nat → Nat) : Prop where
  inv : Inv m n A c (S 0)
  bl : ∀ k, Bland m n (S k) (r k) (s k)
  nx : ∀ k, S (k + 1) = pivot (S k) (r k) (s k)
variable {S : Nat → Tab} {r s : Nat → Nat}
theorem Run.I (R : Run m n A c S r s) : ∀ k, Inv m n A c (S k)
  | 0 => R.inv
  | k + 1 => by rw [R.nx k]; exact (R.bl k).next (R.I k)
theorem Run.shift (R : Run m n A c S r s) (a : Nat) : Run m n A c (fun k => S (a + k)) (fun k => r (a + k)) (fun k => s (a + k)) := ⟨R.I a, fun k => R.bl (a + k), fun k => R.nx (a + k)⟩
/-- not 2 ^ n turns without height, one behind another -/
theorem Run.height (R : Run m n A c S r s) : ∃ k, k < 2 ^ n ∧ (S k).T (r k) n ≠ 0 := by
  apply Classical.byContradiction
  intro no
  have h0 : ∀ k, k < 2 ^ n → (S k).T (r k) n = 0 := fun k hk => by
    apply Classical.byContradiction
    intro e
    exact no ⟨k, hk, e⟩
  have := run_short (fun k t => t = s k ∨ t = (S k).b (r k)) (2 ^ n) n 0 (2 ^ n) (by omega) (fun k _ _ => ⟨s k, .inl rfl⟩) (fun k t _ _ h => by
      rcases h with e | e
      · rw [e]; exact (R.bl k).hs
      · rw [e]; exact (R.I k).bas _ (R.bl k).hr) (fun k k' t hk hL t1 t2 => by
    apply Classical.byContradiction
    intro none
    have low : ∀ l, k ≤ l → l ≤ k' → s l ≤ t ∧ (S l).b (r l) ≤ t := fun l h1 h2 => by
      constructor
      · apply Classical.byContradiction
        intro e
        exact none ⟨l, s l, h1, h2, .inl rfl, by omega⟩
      · apply Classical.byContradiction
        intro e
        exact none ⟨l, (S l).b (r l), h1, h2, .inr rfl, by omega⟩
    have same : ∀ d, k + d ≤ k' → (∀ j, t < j → (inB m (S (k + d)) j ↔ inB m (S k) j)) ∧ ∀ j, val m n (S (k + d)) j = val m n (S k) j := by
      intro d
      induction d with
      | zero => intro _; exact ⟨fun _ _ => Iff.rfl, fun _ => rfl⟩
      | succ d ih =>
        intro h
        obtain ⟨a, b⟩ := ih (by omega)
        have lo := low (k + d) (by omega) (by omega)
        refine ⟨fun j hj => ?_, fun j => ?_⟩
        · rw [← a j hj, ← Nat.add_assoc, R.nx (k + d)]
          exact inB_pivot (R.I _) (R.bl _) (by omega) (by omega)
        · rw [← b j, ← Nat.add_assoc, R.nx (k + d)]
          exact val_pivot (R.I _) (R.bl _) (h0 _ (by omega)) j
    have same2 : ∀ l l', k ≤ l → l ≤ k' → k ≤ l' → l' ≤ k' → (∀ j, t < j → inB m (S l) j → inB m (S l') j) ∧ ∀ j, val m n (S l) j = val m n (S l') j := by
      intro l l' a b c' d
      obtain ⟨x1, x2⟩ := same (l - k) (by omega)
      obtain ⟨y1, y2⟩ := same (l' - k) (by omega)
      rw [show k + (l - k) = l by omega] at x1 x2
      rw [show k + (l' - k) = l' by omega] at y1 y2
      exact ⟨fun j hj h => (y1 j hj).mpr ((x1 j hj).mp h), fun j => (x2 j).trans (y2 j).symm⟩
    have final : ∀ l l', k ≤ l → l ≤ k' → k ≤ l' → l' ≤ k' → (S l).b (r l) = t → s l' = t → False := by
      intro l l' a b c' d e1 e2
      obtain ⟨z1, z2⟩ := same2 l l' a b c' d
      refine clash (R.I l) (R.I l') (R.bl l) (by rw [← e2]; exact R.bl l') e1 (low l a b).1 (fun j hj i hi e => ?_) z2
      exact z1 j hj ⟨i, hi, e⟩
    have stay : ∀ l, t ≠ s l → t ≠ (S l).b (r l) → (inB m (S (l + 1)) t ↔ inB m (S l) t) := fun l a b => by
      rw [R.nx l]
      exact inB_pivot (R.I _) (R.bl _) a b
    rcases t1 with e1 | e1 <;> rcases t2 with e2 | e2
    · -- comes at k and at k': leaves between
      have a : inB m (S (k + 1)) t := by rw [R.nx k, e1]; exact (R.bl k).came
      have b : ¬ inB m (S k') t := by rw [e2]; exact (R.bl k').out (R.I k')
      obtain ⟨l, x1, x2, x3, x4⟩ := change (P := fun l => inB m (S l) t) (show k + 1 ≤ k' by omega) a b
      have nt : t ≠ s l := fun e => (R.bl l).out (R.I l) (by rw [← e]; exact x3)
      by_cases e : t = (S l).b (r l)
      · exact final l k' (by omega) (by omega) (by omega) (by omega) e.symm e2.symm
      · exact x4 ((stay l nt e).mpr x3)
    · exact final k' k (by omega) (by omega) (by omega) (by omega) e2.symm e1.symm
    · exact final k k' (by omega) (by omega) (by omega) (by omega) e1.symm e2.symm
    · have a : ¬ inB m (S (k + 1)) t := by rw [R.nx k, e1]; exact (R.bl k).left (R.I k)
      have b : inB m (S k') t := ⟨r k', (R.bl k').hr, e2.symm⟩
      obtain ⟨l, x1, x2, x3, x4⟩ := change (P := fun l => ¬ inB m (S l) t) (show k + 1 ≤ k' by omega) a (fun h => h b)
      have x4' : inB m (S (l + 1)) t := Classical.not_not.mp x4
      by_cases e : t = s l
      · exact final k l (by omega) (by omega) (by omega) (by omega) e1.symm e.symm
      · by_cases e3 : t = (S l).b (r l)
        · exact x3 ⟨r l, (R.bl l).hr, e3.symm⟩
        · exact x3 ((stay l e e3).mp x4'))
  omega
theorem Run.mono (R : Run m n A c S r s) (k : Nat) : ∀ d, (S k).z n ≤ (S (k + d)).z n
  | 0 => Rat.le_refl
  | d + 1 => by
    have a := R.mono k d
    have b := ((R.bl (k + d)).grow (R.I _)).1
    rw [← R.nx (k + d)] at b
    exact Rat.le_trans a b
/-- BLAND'S RULE ENDS -/
theorem Run.no (Y : Sys m n W A c) (R : Run m n A c S r s) : False := by
  have up : ∀ k, (S k).z n < (S (k + 2 ^ n)).z n := by
    intro k
    obtain ⟨j, hj, h⟩ := (R.shift k).height
    have a := R.mono k j
    have b := ((R.bl (k + j)).grow (R.I _)).2 h
    rw [← R.nx (k + j)] at b
    have d := R.mono (k + j + 1) (2 ^ n - (j + 1))
    rw [show k + j + 1 + (2 ^ n - (j + 1)) = k + 2 ^ n by omega] at d
    grind
  have wh : ∀ k, ∃ N : Int, ((fact (bT m) : Int) : Rat) * (S k).z n = (N : Rat) ∧ N ≤ (fact (bT m) * bZ m W : Nat) := fun k => ((R.I k).frZ Y (by omega)).whole
  have steps : ∀ j : Nat, ∃ N N0 : Int, ((fact (bT m) : Int) : Rat) * (S (j * 2 ^ n)).z n = (N : Rat) ∧ ((fact (bT m) : Int) : Rat) * (S 0).z n = (N0 : Rat) ∧ N0 + j ≤ N := by
    intro j
    induction j with
    | zero =>
      obtain ⟨N, e, _⟩ := wh 0
      exact ⟨N, N, by rw [Nat.zero_mul]; exact e, e, by omega⟩
    | succ j ih =>
      obtain ⟨N, N0, e1, e2, h⟩ := ih
      obtain ⟨N', e3, _⟩ := wh ((j + 1) * 2 ^ n)
      refine ⟨N', N0, e3, e2, ?_⟩
      have u := up (j * 2 ^ n)
      rw [show j * 2 ^ n + 2 ^ n = (j + 1) * 2 ^ n by rw [Nat.succ_mul]] at u
      have fp : (0 : Rat) < ((fact (bT m) : Int) : Rat) := Rat.intCast_pos.mpr (by have := fact_pos (bT m); omega)
      have v := Rat.mul_lt_mul_of_pos_left u fp
      rw [e1, e3, Rat.intCast_lt_intCast] at v
      omega
  obtain ⟨N0, e0, _⟩ := wh 0
  obtain ⟨N, N0', e1, e2, h⟩ := steps ((fact (bT m) * bZ m W : Nat) + N0.natAbs + 1)
  obtain ⟨N', e3, h3⟩ := wh (((fact (bT m) * bZ m W : Nat) + N0.natAbs + 1) * 2 ^ n)
  have q1 : N0' = N0 := Rat.intCast_inj.mp (e2.symm.trans e0)
  have q2 : N' = N := Rat.intCast_inj.mp (e3.symm.trans e1)
  rw [q1] at h
  rw [q2] at h3
  omega
end
end Bl

/-! The mirror of Table over lists of rationals, and its law: it ends, its entries stay small. -/
namespace Mi
open Bl
structure Tb where
  rows : List (List Rat)
  last : List Rat
  base : List Nat
def ent (T : Tb) (i j : Nat) : Rat := (T.rows.getD i []).getD j 0
def view (T : Tb) : Tab := ⟨ent T, fun j => T.last.getD j 0, fun i => T.base.getD i 0⟩
structure Wf (m n : Nat) (T : Tb) : Prop where
  rows : T.rows.length = m
  row : ∀ i, i < m → (T.rows.getD i []).length = n + 1
  last : T.last.length = n + 1
  base : T.base.length = m
def fresh (T : Tb) (r s : Nat) : List Rat := (T.rows.getD r []).map (fun v => v / ent T r s)
def less (row lead : List Rat) (s : Nat) : List Rat := List.zipWith (fun v o => v - row.getD s 0 * o) row lead
def turn (T : Tb) (r s : Nat) : Tb :=
  ⟨T.rows.mapIdx (fun i row => if i = r then fresh T r s else less row (fresh T r s) s), less T.last (fresh T r s) s, T.base.set r s⟩
theorem getD_map0 (l : List Rat) (f : Rat → Rat) (j : Nat) (h0 : f 0 = 0) : (l.map f).getD j 0 = f (l.getD j 0) := by
  rw [List.getD_eq_getElem?_getD, List.getD_eq_getElem?_getD, List.getElem?_map]
  cases l[j]? with
  | none => simp [h0]
  | some x => rfl
theorem getD_zip (a b : List Rat) (k : Rat) (j : Nat) (h : a.length = b.length) : (List.zipWith (fun v o => v - k * o) a b).getD j 0 = a.getD j 0 - k * b.getD j 0 := by
  rw [List.getD_eq_getElem?_getD, List.getD_eq_getElem?_getD, List.getD_eq_getElem?_getD, List.getElem?_zipWith]
  by_cases e : j < a.length
  · rw [List.getElem?_eq_getElem e, List.getElem?_eq_getElem (by omega)]
    rfl
  · rw [List.getElem?_eq_none (by omega), List.getElem?_eq_none (by omega)]
    simp; grind
section
variable {m n : Nat} {T : Tb} {r s : Nat}
theorem fresh_len (W : Wf m n T) (hr : r < m) : (fresh T r s).length = n + 1 := by
  unfold fresh
  rw [List.length_map, W.row r hr]
theorem turn_row (W : Wf m n T) (hr : r < m) {i : Nat} (hi : i < m) : (turn T r s).rows.getD i [] = if i = r then fresh T r s else less (T.rows.getD i []) (fresh T r s) s := by
  unfold turn
  rw [List.getD_eq_getElem?_getD, List.getElem?_mapIdx, List.getElem?_eq_getElem (by rw [W.rows]; exact hi)]
  simp only [Option.map_some, Option.getD_some]
  split
  · rfl
  · rw [List.getD_eq_getElem?_getD, List.getElem?_eq_getElem (by rw [W.rows]; exact hi)]; rfl
theorem Wf.turn (W : Wf m n T) (hr : r < m) : Wf m n (turn T r s) where
  rows := by unfold Mi.turn; rw [List.length_mapIdx, W.rows]
  row := fun i hi => by
    rw [turn_row W hr hi]
    split
    · exact fresh_len W hr
    · unfold less
      rw [List.length_zipWith, W.row i hi, fresh_len W hr, Nat.min_self]
  last := by
    show (less T.last (fresh T r s) s).length = n + 1
    unfold less
    rw [List.length_zipWith, W.last, fresh_len W hr, Nat.min_self]
  base := by
    show (T.base.set r s).length = m
    rw [List.length_set, W.base]
theorem view_turn (W : Wf m n T) (hr : r < m) : view (turn T r s) = pivot (view T) r s := by
  unfold view pivot
  have eF : ∀ j, (fresh T r s).getD j 0 = ent T r j / ent T r s := fun j => getD_map0 _ (fun v => v / ent T r s) j (by grind)
  congr 1
  · funext i j
    by_cases hi : i < m
    · show ((turn T r s).rows.getD i []).getD j 0 = _
      rw [turn_row W hr hi]
      by_cases e : i = r
      · rw [if_pos e, if_pos e]; exact eF j
      · rw [if_neg e, if_neg e]
        unfold less
        rw [getD_zip _ _ _ _ (by rw [W.row i hi, fresh_len W hr]), eF j]; rfl
    · have e1 : ∀ j, ent T i j = 0 := fun j => by
        unfold ent
        rw [List.getD_eq_getElem?_getD (l := T.rows), List.getElem?_eq_none (by rw [W.rows]; omega)]; simp
      have e2 : ent (turn T r s) i j = 0 := by
        unfold ent
        rw [List.getD_eq_getElem?_getD (l := (turn T r s).rows), List.getElem?_eq_none (by rw [(W.turn (s := s) hr).rows]; omega)]; simp
      show ent (turn T r s) i j = if i = r then ent T r j / ent T r s else ent T i j - ent T i s * (ent T r j / ent T r s)
      rw [e2, if_neg (by omega), e1, e1]; grind
  · funext j
    show (less T.last (fresh T r s) s).getD j 0 = _
    unfold less
    rw [getD_zip _ _ _ _ (by rw [W.last, fresh_len W hr]), eF j]
  · funext i
    show (T.base.set r s).getD i 0 = if i = r then s else T.base.getD i 0
    rw [List.getD_eq_getElem?_getD, List.getElem?_set]
    by_cases e : i = r
    · subst e
      rw [if_pos rfl, if_pos (by rw [W.base]; exact hr), if_pos rfl]; rfl
    · rw [if_neg (fun h => e h.symm), if_neg e, List.getD_eq_getElem?_getD]
/-! ### which column, which row -/
def colOf (last : List Rat) : Option Nat := (List.range (last.length - 1)).find? (fun j => decide (last.getD j 0 < 0))
theorem colOf_some {last : List Rat} {s : Nat} (h : colOf last = some s) : s < last.length - 1 ∧ last.getD s 0 < 0 ∧ ∀ j, j < s → 0 ≤ last.getD j 0 := by
  unfold colOf at h
  rw [List.find?_range_eq_some] at h
  obtain ⟨h1, h2, h3⟩ := h
  refine ⟨List.mem_range.mp h2, of_decide_eq_true h1, fun j hj => ?_⟩
  have := h3 j hj
  simp only [Bool.not_eq_true', decide_eq_false_iff_not] at this
  exact Rat.not_lt.mp this
abbrev Fnd := Option (Nat × Rat × Nat)
def ratio (T : Tb) (i s : Nat) : Rat := (T.rows.getD i []).getD ((T.rows.getD i []).length - 1) 0 / ent T i s
def better (q : Rat) (b : Nat) : Fnd → Bool
  | none => true
  | some (_, q0, b0) => decide (q < q0) || (decide (q = q0) && decide (b < b0))
def step (T : Tb) (s : Nat) (f : Fnd) (i : Nat) : Fnd :=
  if 0 < ent T i s then (if better (ratio T i s) (T.base.getD i 0) f = true then some (i, ratio T i s, T.base.getD i 0) else f) else f
def pick (T : Tb) (s k : Nat) : Fnd := (List.range k).foldl (step T s) none
theorem pick_succ (T : Tb) (s k : Nat) : pick T s (k + 1) = step T s (pick T s k) k := by
  unfold pick
  rw [List.range_succ, List.foldl_append]
  rfl
theorem pick_spec (T : Tb) (s : Nat) : ∀ k, (pick T s k = none ∧ ∀ i, i < k → ¬ 0 < ent T i s) ∨
    ∃ r, pick T s k = some (r, ratio T r s, T.base.getD r 0) ∧ r < k ∧ 0 < ent T r s ∧ ∀ i, i < k → 0 < ent T i s → ratio T r s ≤ ratio T i s ∧ (ratio T i s = ratio T r s → T.base.getD r 0 ≤ T.base.getD i 0)
  | 0 => .inl ⟨rfl, fun i hi => by omega⟩
  | k + 1 => by
    rw [pick_succ]
    by_cases hp : 0 < ent T k s
    · rcases pick_spec T s k with ⟨e, h⟩ | ⟨r, e, h1, h2, h3⟩
      · refine .inr ⟨k, ?_, by omega, hp, fun i hi hpi => ?_⟩
        · rw [e]; unfold step; rw [if_pos hp]; rfl
        · by_cases x : i = k
          · rw [x]; exact ⟨Rat.le_refl, fun _ => Nat.le_refl _⟩
          · exact absurd hpi (h i (by omega))
      · by_cases hb : better (ratio T k s) (T.base.getD k 0) (some (r, ratio T r s, T.base.getD r 0)) = true
        · have hb' : ratio T k s < ratio T r s ∨ (ratio T k s = ratio T r s ∧ T.base.getD k 0 < T.base.getD r 0) := by
            simpa [better] using hb
          refine .inr ⟨k, ?_, by omega, hp, fun i hi hpi => ?_⟩
          · rw [e]; unfold step; rw [if_pos hp, if_pos hb]
          · by_cases x : i = k
            · rw [x]; exact ⟨Rat.le_refl, fun _ => Nat.le_refl _⟩
            · obtain ⟨a, b⟩ := h3 i (by omega) hpi
              rcases hb' with z | ⟨z1, z2⟩
              · exact ⟨Rat.le_of_lt (by grind), fun q => by grind⟩
              · exact ⟨by grind, fun q => by have := b (by grind); omega⟩
        · refine .inr ⟨r, ?_, by omega, h2, fun i hi hpi => ?_⟩
          · rw [e]; unfold step; rw [if_pos hp, if_neg hb]
          · by_cases x : i = k
            · have hb' : ¬ (ratio T k s < ratio T r s ∨ (ratio T k s = ratio T r s ∧ T.base.getD k 0 < T.base.getD r 0)) := by
                simpa [better] using hb
              rw [x]
              refine ⟨?_, fun q => ?_⟩
              · apply Classical.byContradiction
                intro z
                exact hb' (.inl (Rat.not_le.mp z))
              · apply Classical.byContradiction
                intro z
                exact hb' (.inr ⟨q, by omega⟩)
            · exact h3 i (by omega) hpi
    · rcases pick_spec T s k with ⟨e, h⟩ | ⟨r, e, h1, h2, h3⟩
      · refine .inl ⟨?_, fun i hi => ?_⟩
        · rw [e]; unfold step; rw [if_neg hp]
        · by_cases x : i = k
          · rw [x]; exact hp
          · exact h i (by omega)
      · refine .inr ⟨r, ?_, by omega, h2, fun i hi hpi => ?_⟩
        · rw [e]; unfold step; rw [if_neg hp]
        · by_cases x : i = k
          · rw [x] at hpi; exact absurd hpi hp
          · exact h3 i (by omega) hpi
def next (T : Tb) : Tb := match colOf T.last with
  | none => T
  | some s => match pick T s T.rows.length with
    | none => T
    | some (r, _, _) => turn T r s
def iter : Nat → Tb → Tb
  | 0, T => T
  | k + 1, T => iter k (next T)
theorem iter_succ (k : Nat) : ∀ T, iter (k + 1) T = next (iter k T) := by
  induction k with
  | zero => intro T; rfl
  | succ k ih => intro T; exact ih (next T)
theorem iter_done {T : Tb} (h : colOf T.last = none) : ∀ k, iter k T = T
  | 0 => rfl
  | k + 1 => by
    have e : next T = T := by unfold next; rw [h]
    show iter k (next T) = T
    rw [e]; exact iter_done h k
/-! ### the system -/
structure Good (m n W : Nat) (A : Nat → Nat → Rat) (c : Nat → Rat) (T : Tb) : Prop where
  sys : Sys m n W A c
  wf : Wf m n T
  inv : Inv m n A c (view T)
variable {W : Nat} {A : Nat → Nat → Rat} {c : Nat → Rat}
theorem Good.nonneg (G : Good m n W A c T) : ∀ i, i < m → ∀ j, j < n → 0 ≤ A i j := fun i hi j hj => by
  rcases G.sys.ent i hi j (by omega) with e | e <;> rw [e] <;> decide
/-- where a column can make more there is a row, and the turn goes by Bland's rule -/
theorem Good.row (G : Good m n W A c T) {s : Nat} (h : colOf T.last = some s) : ∃ r, pick T s T.rows.length = some (r, ratio T r s, T.base.getD r 0) ∧ Bland m n (view T) r s := by
  obtain ⟨h1, h2, h3⟩ := colOf_some h
  rw [G.wf.last] at h1
  have hs : s < n := by omega
  have eN : ∀ i, i < m → ratio T i s = ent T i n / ent T i s := fun i hi => by
    unfold ratio
    rw [G.wf.row i hi]; rfl
  rw [G.wf.rows]
  rcases pick_spec T s m with ⟨e, no⟩ | ⟨r, e, a1, a2, a3⟩
  · obtain ⟨r, hr, hp⟩ := G.inv.bounded G.nonneg G.sys.cov hs (by show T.last.getD s 0 ≠ 0; grind)
    exact absurd hp (no r hr)
  · refine ⟨r, e, a1, hs, h2, h3, a2, fun i hi hp => ?_, fun i hi hp q => ?_⟩
    · have := (a3 i hi hp).1
      rw [eN i hi, eN r a1] at this
      exact this
    · refine (a3 i hi hp).2 ?_
      rw [eN i hi, eN r a1]
      exact q
theorem Good.turn (G : Good m n W A c T) {r s : Nat} (B : Bland m n (view T) r s) : Good m n W A c (turn T r s) :=
  ⟨G.sys, G.wf.turn B.hr, by rw [view_turn G.wf B.hr]; exact B.next G.inv⟩
theorem Good.next (G : Good m n W A c T) : Good m n W A c (next T) := by
  unfold Mi.next
  cases h : colOf T.last with
  | none => exact G
  | some s =>
    obtain ⟨r, e, B⟩ := G.row h
    simp only [e]
    exact G.turn B
theorem Good.iter (G : Good m n W A c T) : ∀ k, Good m n W A c (iter k T) := by
  intro k
  induction k generalizing T with
  | zero => exact G
  | succ k ih => exact ih G.next
theorem Good.ends (G : Good m n W A c T) : ∃ k, colOf (Mi.iter k T).last = none := by
  apply Classical.byContradiction
  intro h
  have hs : ∀ k, ∃ s, colOf (Mi.iter k T).last = some s := fun k => by
    cases e : colOf (Mi.iter k T).last with
    | none => exact absurd ⟨k, e⟩ h
    | some s => exact ⟨s, rfl⟩
  have hb : ∀ k, ∃ r s, Bland m n (view (Mi.iter k T)) r s ∧ Mi.iter (k + 1) T = Mi.turn (Mi.iter k T) r s := fun k => by
    obtain ⟨s, e⟩ := hs k
    obtain ⟨r, e2, B⟩ := (G.iter k).row e
    refine ⟨r, s, B, ?_⟩
    rw [iter_succ]
    unfold Mi.next
    simp only [e, e2]
  have R : Run m n A c (fun k => view (Mi.iter k T)) (fun k => Classical.choose (hb k)) (fun k => Classical.choose (Classical.choose_spec (hb k))) :=
    ⟨G.inv, fun k => (Classical.choose_spec (Classical.choose_spec (hb k))).1, fun k => by
      have z := Classical.choose_spec (Classical.choose_spec (hb k))
      exact (congrArg view z.2).trans (view_turn (G.iter k).wf z.1.hr)⟩
  exact R.no G.sys
/-! ### sizes -/
/-- numerator and denominator below 2 ^ b -/
structure Sz (b : Nat) (q : Rat) : Prop where
  num : q.num.natAbs < 2 ^ b
  den : q.den < 2 ^ b
theorem Sz.mono {a b : Nat} {q : Rat} (h : Sz a q) (hab : a ≤ b) : Sz b q :=
  ⟨Nat.lt_of_lt_of_le h.num (Nat.pow_le_pow_right (by decide) hab), Nat.lt_of_lt_of_le h.den (Nat.pow_le_pow_right (by decide) hab)⟩
theorem bT_small (h : m ≤ 5) : bT m < 2 ^ 64 := by
  have : ∀ m, m < 6 → bT m < 2 ^ 64 := by decide
  exact this m (by omega)
theorem bZ_small (h : m ≤ 5) (hW : W ≤ 1000000) : bZ m W < 2 ^ 64 := by
  have : ∀ m, m < 6 → bnd m 1 * 1000000 + m * (1000000 * bnd m 1) < 2 ^ 64 := by decide
  have a := this m (by omega)
  have b : bnd m 1 * W ≤ bnd m 1 * 1000000 := Nat.mul_le_mul_left _ hW
  have c : m * (W * bnd m 1) ≤ m * (1000000 * bnd m 1) := Nat.mul_le_mul_left _ (Nat.mul_le_mul_right _ hW)
  unfold bZ
  omega
theorem Good.szT (G : Good m n W A c T) (hm : m ≤ 5) {i j : Nat} (hi : i < m) (hj : j < n + 1) : Sz 64 (ent T i j) := by
  have f := G.inv.frT G.sys hi hj
  exact ⟨Nat.lt_of_le_of_lt f.num (bT_small hm), Nat.lt_of_le_of_lt f.den (bT_small hm)⟩
theorem Good.szZ (G : Good m n W A c T) (hm : m ≤ 5) (hW : W ≤ 1000000) {j : Nat} (hj : j < n + 1) : Sz 64 (T.last.getD j 0) := by
  have f := G.inv.frZ G.sys hj
  exact ⟨Nat.lt_of_le_of_lt f.num (bZ_small hm hW), Nat.lt_of_le_of_lt f.den (bT_small hm)⟩
end
end Mi

/-! The first table of a teller; the sure chance. -/
namespace Mi
open Bl
def b01 (p : Bool) : Rat := if p then 1 else 0
def row0 (many m i : Nat) (cs : List Nat) : List Rat := ((List.range many).map fun k => b01 (decide (k ∈ cs))) ++ ((List.range m).map fun o => b01 (decide (o = i))) ++ [1]
def init (ws : List Int) (ss : List (List Nat)) : Tb where
  rows := (List.range ss.length).map fun i => row0 ws.length ss.length i (ss.getD i [])
  last := (ws.map fun w => ((-w : Int) : Rat)) ++ List.replicate (ss.length + 1) 0
  base := (List.range ss.length).map fun i => ws.length + i
theorem row0_len (many m i : Nat) (cs : List Nat) : (row0 many m i cs).length = many + m + 1 := by
  unfold row0
  simp
  omega
theorem getD_app {α : Type} (a b : List α) (j : Nat) (d : α) : (a ++ b).getD j d = if j < a.length then a.getD j d else b.getD (j - a.length) d := by
  rw [List.getD_eq_getElem?_getD]
  by_cases h : j < a.length
  · rw [if_pos h, List.getElem?_append_left h, ← List.getD_eq_getElem?_getD]
  · rw [if_neg h, List.getElem?_append_right (by omega), ← List.getD_eq_getElem?_getD]
theorem getD_mr {α : Type} (n : Nat) (f : Nat → α) (j : Nat) (d : α) : ((List.range n).map f).getD j d = if j < n then f j else d := by
  rw [List.getD_eq_getElem?_getD, List.getElem?_map]
  by_cases h : j < n
  · rw [if_pos h, List.getElem?_range h]; rfl
  · rw [if_neg h, List.getElem?_eq_none (by simpa using h)]; rfl
theorem row0_get (many m i : Nat) (cs : List Nat) (j : Nat) : (row0 many m i cs).getD j 0 =
    if j < many then b01 (decide (j ∈ cs)) else if j < many + m then b01 (decide (j - many = i)) else if j = many + m then 1 else 0 := by
  unfold row0
  rw [getD_app, getD_app, getD_mr, getD_mr]
  simp only [List.length_append, List.length_map, List.length_range]
  by_cases h1 : j < many
  · rw [if_pos (by omega), if_pos h1, if_pos h1, if_pos h1]
  · by_cases h2 : j < many + m
    · rw [if_pos h2, if_neg h1, if_neg h1, if_pos (by omega), if_pos h2]
    · rw [if_neg h2, if_neg h1, if_neg h2]
      by_cases h3 : j = many + m
      · rw [if_pos h3, h3, Nat.sub_self]; rfl
      · rw [if_neg h3, List.getD_eq_getElem?_getD, List.getElem?_eq_none (by simp; omega)]; rfl
structure Valid (ws : List Int) (ss : List (List Nat)) : Prop where
  wt : ∀ x, x ∈ ws → 1 ≤ x ∧ x ≤ 1000000
  m5 : ss.length ≤ 5
  cov : ∀ k, k < ws.length → ∃ cs, cs ∈ ss ∧ k ∈ cs
section
variable {ws : List Int} {ss : List (List Nat)}
theorem ent_init {i j : Nat} (hi : i < ss.length) : ent (init ws ss) i j = (row0 ws.length ss.length i (ss.getD i [])).getD j 0 := by
  unfold ent init
  rw [getD_mr, if_pos hi]
theorem last_init (j : Nat) : (init ws ss).last.getD j 0 = if j < ws.length then ((-(ws.getD j 0) : Int) : Rat) else 0 := by
  unfold init
  rw [getD_app, List.length_map]
  by_cases h : j < ws.length
  · rw [if_pos h, if_pos h, List.getD_eq_getElem?_getD, List.getElem?_map, List.getD_eq_getElem?_getD, List.getElem?_eq_getElem h]; rfl
  · rw [if_neg h, if_neg h, List.getD_eq_getElem?_getD, List.getElem?_replicate]
    split <;> rfl
theorem init_wf : Wf ss.length (ws.length + ss.length) (init ws ss) where
  rows := by unfold init; simp
  row := fun i hi => by
    unfold init
    rw [getD_mr, if_pos hi, row0_len]
  last := by unfold init; simp; omega
  base := by unfold init; simp
theorem init_good (V : Valid ws ss) : Good ss.length (ws.length + ss.length) 1000000 (view (init ws ss)).T (view (init ws ss)).z (init ws ss) where
  wf := init_wf
  sys := by
    refine ⟨fun i hi j hj => ?_, fun j hj => ?_, fun j hj => ?_⟩
    · show ent (init ws ss) i j = 0 ∨ ent (init ws ss) i j = 1
      rw [ent_init hi, row0_get]
      have h01 : ∀ p, b01 p = 0 ∨ b01 p = 1 := fun p => by cases p; exact .inl rfl; exact .inr rfl
      split
      · exact h01 _
      · split
        · exact h01 _
        · split
          · exact .inr rfl
          · exact .inl rfl
    · by_cases h : j < ws.length
      · obtain ⟨cs, h1, h2⟩ := V.cov j h
        obtain ⟨i, hi, e⟩ := List.mem_iff_getElem.mp h1
        refine ⟨i, hi, ?_⟩
        show 0 < ent (init ws ss) i j
        rw [ent_init hi, row0_get, if_pos h, List.getD_eq_getElem?_getD, List.getElem?_eq_getElem hi, e]
        show 0 < b01 (decide (j ∈ cs))
        rw [decide_eq_true h2]; decide
      · refine ⟨j - ws.length, by omega, ?_⟩
        show 0 < ent (init ws ss) (j - ws.length) j
        rw [ent_init (by omega), row0_get, if_neg h, if_pos (by omega), decide_eq_true rfl]; decide
    · show ∃ N : Int, (init ws ss).last.getD j 0 = (N : Rat) ∧ N.natAbs ≤ 1000000
      rw [last_init]
      by_cases h : j < ws.length
      · rw [if_pos h]
        refine ⟨_, rfl, ?_⟩
        have := V.wt (ws.getD j 0) (by rw [List.getD_eq_getElem?_getD, List.getElem?_eq_getElem h]; exact List.getElem_mem _)
        omega
      · rw [if_neg h]; exact ⟨0, rfl, by decide⟩
  inv := by
    have bs : ∀ i, i < ss.length → (view (init ws ss)).b i = ws.length + i := fun i hi => by
      show (init ws ss).base.getD i 0 = _
      unfold init
      rw [getD_mr, if_pos hi]
    refine ⟨fun v => Iff.rfl, fun v _ => rfl, fun i hi => by rw [bs i hi]; omega, fun i hi k hk => ?_, fun k hk => ?_, fun i hi => ?_⟩
    · rw [bs k hk]
      show ent (init ws ss) i (ws.length + k) = _
      rw [ent_init hi, row0_get, if_neg (by omega), if_pos (by omega)]
      unfold b01
      by_cases e : i = k
      · rw [if_pos e, decide_eq_true (by omega)]; rfl
      · rw [if_neg e, decide_eq_false (by omega)]; rfl
    · rw [bs k hk]
      show (init ws ss).last.getD (ws.length + k) 0 = 0
      rw [last_init, if_neg (by omega)]
    · show 0 ≤ ent (init ws ss) i (ws.length + ss.length)
      rw [ent_init hi, row0_get, if_neg (by omega), if_neg (by omega), if_pos rfl]; decide
theorem init_ends (V : Valid ws ss) : ∃ k, colOf (iter k (init ws ss)).last = none := (init_good V).ends
end
/-- the table behind all turns -/
noncomputable def final (ws : List Int) (ss : List (List Nat)) : Tb := open Classical in if h : ∃ k, colOf (iter k (init ws ss)).last = none then iter h.choose (init ws ss) else init ws ss
theorem final_spec {ws : List Int} {ss : List (List Nat)} (V : Valid ws ss) : ∃ k, iter k (init ws ss) = final ws ss ∧ colOf (final ws ss).last = none := by
  have h := init_ends V
  refine ⟨h.choose, ?_, ?_⟩
  · unfold final; rw [dif_pos h]
  · unfold final; rw [dif_pos h]; exact h.choose_spec
noncomputable def top1 (ws : List Int) (ss : List (List Nat)) : Rat := (final ws ss).last.getD (ws.length + ss.length) 0
/-- the sure chance -/
noncomputable def sure (ws : List Int) (ss : List (List Nat)) : Rat := top1 ws ss / ((ws.sum : Int) : Rat)
end Mi

set_option maxHeartbeats 4000000
/-! The text by places, what is asked of the head, the facts as the walk wants them. -/
namespace Kg
open PySem PySem.Spec PyProof.Rows L2
def top (i : Nat) : Stmt := PySem.Challenge.pw_tellerhabits_k47_whole_gains.main.body.getD i (.Pass ⟨0, 0, 0, 0⟩)
abbrev s_is_integer : Stmt := top 11
abbrev s_is_between : Stmt := top 12
abbrev s_common_divisor : Stmt := top 14
abbrev s_fraction : Stmt := top 15
abbrev s_minus : Stmt := top 16
abbrev s_times : Stmt := top 17
abbrev s_over : Stmt := top 18
abbrev s_is_less : Stmt := top 19
abbrev s_is_ascending : Stmt := top 20
abbrev s_check_weights : Stmt := top 26
abbrev s_is_lot : Stmt := top 27
abbrev s_check_sayings : Stmt := top 28
abbrev s_Teller_init : Stmt := inClass (top 30) 0
abbrev s_Teller_said_in : Stmt := inClass (top 30) 4
abbrev s_Teller_str : Stmt := inClass (top 30) 11
abbrev s_check_teller : Stmt := top 31
abbrev s_Table_init : Stmt := inClass (top 37) 0
abbrev s_Table_column : Stmt := inClass (top 37) 1
abbrev s_Table_row : Stmt := inClass (top 37) 2
abbrev s_Table_turn : Stmt := inClass (top 37) 3
abbrev s_Table_solve : Stmt := inClass (top 37) 4
abbrev s_lessened : Stmt := top 38
abbrev s_solved : Stmt := top 39
abbrev s_share_of : Stmt := top 40
abbrev s_sure_for : Stmt := top 41
abbrev s_sure_chance : Stmt := top 42
abbrev s_pairs_in : Stmt := top 44
abbrev s_forbidden : Stmt := top 45
abbrev s_gains : Stmt := top 46
abbrev s_law_vat : Stmt := top 48
abbrev s_law_tap : Stmt := top 49
abbrev s_law_one : Stmt := top 50
abbrev s_law_below : Stmt := top 51
abbrev s_law_weights : Stmt := top 52
abbrev s_law_lot : Stmt := top 53
abbrev s_law_sayings : Stmt := top 54
abbrev s_law_said : Stmt := top 55
abbrev s_law_pairs : Stmt := top 56
abbrev s_law_less : Stmt := top 57
abbrev s_law_right : Stmt := top 58
abbrev s_law : Stmt := top 59
abbrev s_Teller_weights : Stmt := inClass (top 30) 2
abbrev s_Teller_sayings : Stmt := inClass (top 30) 3
def d_is_integer : He.DefD := ⟨("is_integer", none), "is_integer", "is_integer", defArgs s_is_integer, defBody s_is_integer, defScope s_is_integer, [], []⟩
def d_is_between : He.DefD := ⟨("is_between", none), "is_between", "is_between", defArgs s_is_between, defBody s_is_between, defScope s_is_between, [], []⟩
def d_common_divisor : He.DefD := ⟨("common_divisor", none), "common_divisor", "common_divisor", defArgs s_common_divisor, defBody s_common_divisor, defScope s_common_divisor, [], []⟩
def d_fraction : He.DefD := ⟨("fraction", none), "fraction", "fraction", defArgs s_fraction, defBody s_fraction, defScope s_fraction, [], []⟩
def d_minus : He.DefD := ⟨("minus", none), "minus", "minus", defArgs s_minus, defBody s_minus, defScope s_minus, [], []⟩
def d_times : He.DefD := ⟨("times", none), "times", "times", defArgs s_times, defBody s_times, defScope s_times, [], []⟩
def d_over : He.DefD := ⟨("over", none), "over", "over", defArgs s_over, defBody s_over, defScope s_over, [], []⟩
def d_is_less : He.DefD := ⟨("is_less", none), "is_less", "is_less", defArgs s_is_less, defBody s_is_less, defScope s_is_less, [], []⟩
def d_is_ascending : He.DefD := ⟨("is_ascending", none), "is_ascending", "is_ascending", defArgs s_is_ascending, defBody s_is_ascending, defScope s_is_ascending, [], []⟩
def d_check_weights : He.DefD := ⟨("check_weights", none), "check_weights", "check_weights", defArgs s_check_weights, defBody s_check_weights, defScope s_check_weights, [], []⟩
def d_is_lot : He.DefD := ⟨("is_lot", none), "is_lot", "is_lot", defArgs s_is_lot, defBody s_is_lot, defScope s_is_lot, [], []⟩
def d_check_sayings : He.DefD := ⟨("check_sayings", none), "check_sayings", "check_sayings", defArgs s_check_sayings, defBody s_check_sayings, defScope s_check_sayings, [], []⟩
def d_Teller_init : He.DefD := ⟨("Teller", some "__init__"), "__init__", "Teller.__init__", defArgs s_Teller_init, defBody s_Teller_init, defScope s_Teller_init, [], []⟩
def d_Teller_said_in : He.DefD := ⟨("Teller", some "said_in"), "said_in", "Teller.said_in", defArgs s_Teller_said_in, defBody s_Teller_said_in, defScope s_Teller_said_in, [], []⟩
def d_Teller_str : He.DefD := ⟨("Teller", some "__str__"), "__str__", "Teller.__str__", defArgs s_Teller_str, defBody s_Teller_str, defScope s_Teller_str, [], []⟩
def d_check_teller : He.DefD := ⟨("check_teller", none), "check_teller", "check_teller", defArgs s_check_teller, defBody s_check_teller, defScope s_check_teller, [], []⟩
def d_Table_init : He.DefD := ⟨("Table", some "__init__"), "__init__", "Table.__init__", defArgs s_Table_init, defBody s_Table_init, defScope s_Table_init, [], []⟩
def d_Table_column : He.DefD := ⟨("Table", some "column"), "column", "Table.column", defArgs s_Table_column, defBody s_Table_column, defScope s_Table_column, [], []⟩
def d_Table_row : He.DefD := ⟨("Table", some "row"), "row", "Table.row", defArgs s_Table_row, defBody s_Table_row, defScope s_Table_row, [], []⟩
def d_Table_turn : He.DefD := ⟨("Table", some "turn"), "turn", "Table.turn", defArgs s_Table_turn, defBody s_Table_turn, defScope s_Table_turn, [], []⟩
def d_Table_solve : He.DefD := ⟨("Table", some "solve"), "solve", "Table.solve", defArgs s_Table_solve, defBody s_Table_solve, defScope s_Table_solve, [], []⟩
def d_lessened : He.DefD := ⟨("lessened", none), "lessened", "lessened", defArgs s_lessened, defBody s_lessened, defScope s_lessened, [], []⟩
def d_solved : He.DefD := ⟨("solved", none), "solved", "solved", defArgs s_solved, defBody s_solved, defScope s_solved, [], []⟩
def d_share_of : He.DefD := ⟨("share_of", none), "share_of", "share_of", defArgs s_share_of, defBody s_share_of, defScope s_share_of, [], []⟩
def d_sure_for : He.DefD := ⟨("sure_for", none), "sure_for", "sure_for", defArgs s_sure_for, defBody s_sure_for, defScope s_sure_for, [], []⟩
def d_sure_chance : He.DefD := ⟨("sure_chance", none), "sure_chance", "sure_chance", defArgs s_sure_chance, defBody s_sure_chance, defScope s_sure_chance, [], []⟩
def d_pairs_in : He.DefD := ⟨("pairs_in", none), "pairs_in", "pairs_in", defArgs s_pairs_in, defBody s_pairs_in, defScope s_pairs_in, [], []⟩
def d_forbidden : He.DefD := ⟨("forbidden", none), "forbidden", "forbidden", defArgs s_forbidden, defBody s_forbidden, defScope s_forbidden, [], []⟩
def d_gains : He.DefD := ⟨("gains", none), "gains", "gains", defArgs s_gains, defBody s_gains, defScope s_gains, [], []⟩
def d_law_vat : He.DefD := ⟨("_law_vat", none), "_law_vat", "_law_vat", defArgs s_law_vat, defBody s_law_vat, defScope s_law_vat, [], []⟩
def d_law_tap : He.DefD := ⟨("_law_tap", none), "_law_tap", "_law_tap", defArgs s_law_tap, defBody s_law_tap, defScope s_law_tap, [], []⟩
def d_law_one : He.DefD := ⟨("_law_one", none), "_law_one", "_law_one", defArgs s_law_one, defBody s_law_one, defScope s_law_one, [], []⟩
def d_law_below : He.DefD := ⟨("_law_below", none), "_law_below", "_law_below", defArgs s_law_below, defBody s_law_below, defScope s_law_below, [], []⟩
def d_law_weights : He.DefD := ⟨("_law_weights", none), "_law_weights", "_law_weights", defArgs s_law_weights, defBody s_law_weights, defScope s_law_weights, [], []⟩
def d_law_lot : He.DefD := ⟨("_law_lot", none), "_law_lot", "_law_lot", defArgs s_law_lot, defBody s_law_lot, defScope s_law_lot, [], []⟩
def d_law_sayings : He.DefD := ⟨("_law_sayings", none), "_law_sayings", "_law_sayings", defArgs s_law_sayings, defBody s_law_sayings, defScope s_law_sayings, [], []⟩
def d_law_said : He.DefD := ⟨("_law_said", none), "_law_said", "_law_said", defArgs s_law_said, defBody s_law_said, defScope s_law_said, [], []⟩
def d_law_pairs : He.DefD := ⟨("_law_pairs", none), "_law_pairs", "_law_pairs", defArgs s_law_pairs, defBody s_law_pairs, defScope s_law_pairs, [], []⟩
def d_law_less : He.DefD := ⟨("_law_less", none), "_law_less", "_law_less", defArgs s_law_less, defBody s_law_less, defScope s_law_less, [], []⟩
def d_law_right : He.DefD := ⟨("_law_right", none), "_law_right", "_law_right", defArgs s_law_right, defBody s_law_right, defScope s_law_right, [], []⟩
def d_law : He.DefD := ⟨("law", none), "law", "law", defArgs s_law, defBody s_law, defScope s_law, [], []⟩
def d_Teller_weights : He.DefD := ⟨("Teller", some "weights"), "weights", "Teller.weights", defArgs s_Teller_weights, defBody s_Teller_weights, defScope s_Teller_weights, [], []⟩
def d_Teller_sayings : He.DefD := ⟨("Teller", some "sayings"), "sayings", "Teller.sayings", defArgs s_Teller_sayings, defBody s_Teller_sayings, defScope s_Teller_sayings, [], []⟩
def fn : List He.DefD := [d_is_integer, d_is_between, d_common_divisor, d_fraction, d_minus, d_times, d_over, d_is_less, d_is_ascending, d_check_weights, d_is_lot, d_check_sayings, d_Teller_init, d_Teller_said_in, d_Teller_str, d_check_teller, d_Table_init, d_Table_column, d_Table_row, d_Table_turn, d_Table_solve, d_lessened, d_solved, d_share_of, d_sure_for, d_sure_chance, d_pairs_in, d_forbidden, d_gains, d_law_vat, d_law_tap, d_law_one, d_law_below, d_law_weights, d_law_lot, d_law_sayings, d_law_said, d_law_pairs, d_law_less, d_law_right, d_law]
def pr : List He.DefD := [d_Teller_weights, d_Teller_sayings]
def fa0 : List He.Fa := [.glo "is_integer", .glo "is_between", .glo "common_divisor", .glo "fraction", .glo "minus", .glo "times", .glo "over", .glo "is_less", .glo "is_ascending", .glo "check_weights", .glo "is_lot", .glo "check_sayings", .glo "check_teller", .glo "lessened", .glo "solved", .glo "share_of", .glo "sure_for", .glo "sure_chance", .glo "pairs_in", .glo "forbidden", .glo "gains", .glo "_law_vat", .glo "_law_tap", .glo "_law_one", .glo "_law_below"]
def fa1 : List He.Fa := [.glo "_law_weights", .glo "_law_lot", .glo "_law_sayings", .glo "_law_said", .glo "_law_pairs", .glo "_law_less", .glo "_law_right", .glo "law", .glo "Teller", .glo "Table", .glo "NONE", .glo "WHOLE", .free "isinstance", .free "int", .free "bool", .free "tuple", .free "len", .free "all", .free "any", .free "enumerate", .free "range", .free "abs", .free "sum", .free "zip", .free "str"]
def fa2 : List He.Fa := [.free "repr", .free "max", .free "min", .free "divmod", .free "sorted", .int "MOST_CASES" 8, .int "MOST_WEIGHT" 1000000, .int "MOST_SAYINGS" 16, .int "LEAST_CASES" 2, .cls "Teller", .cls "Table", .noat "Teller" "held", .noat "Table" "many", .noat "Table" "rows", .noat "Table" "last", .noat "Table" "base", .meth "Teller" "said_in", .meth "Teller" "__str__", .meth "Table" "column", .meth "Table" "row", .meth "Table" "turn", .meth "Table" "solve", .mkr "Teller", .mkr "Table"]
def fa : List He.Fa := fa0 ++ (fa1 ++ fa2)
theorem m_glo_is_integer : He.Fa.glo "is_integer" ∈ fa := List.mem_of_getElem? (i := 0) rfl
theorem m_glo_is_between : He.Fa.glo "is_between" ∈ fa := List.mem_of_getElem? (i := 1) rfl
theorem m_glo_common_divisor : He.Fa.glo "common_divisor" ∈ fa := List.mem_of_getElem? (i := 2) rfl
theorem m_glo_fraction : He.Fa.glo "fraction" ∈ fa := List.mem_of_getElem? (i := 3) rfl
theorem m_glo_minus : He.Fa.glo "minus" ∈ fa := List.mem_of_getElem? (i := 4) rfl
theorem m_glo_times : He.Fa.glo "times" ∈ fa := List.mem_of_getElem? (i := 5) rfl
theorem m_glo_over : He.Fa.glo "over" ∈ fa := List.mem_of_getElem? (i := 6) rfl
theorem m_glo_is_less : He.Fa.glo "is_less" ∈ fa := List.mem_of_getElem? (i := 7) rfl
theorem m_glo_is_ascending : He.Fa.glo "is_ascending" ∈ fa := List.mem_of_getElem? (i := 8) rfl
theorem m_glo_check_weights : He.Fa.glo "check_weights" ∈ fa := List.mem_of_getElem? (i := 9) rfl
theorem m_glo_is_lot : He.Fa.glo "is_lot" ∈ fa := List.mem_of_getElem? (i := 10) rfl
theorem m_glo_check_sayings : He.Fa.glo "check_sayings" ∈ fa := List.mem_of_getElem? (i := 11) rfl
theorem m_glo_check_teller : He.Fa.glo "check_teller" ∈ fa := List.mem_of_getElem? (i := 12) rfl
theorem m_glo_lessened : He.Fa.glo "lessened" ∈ fa := List.mem_of_getElem? (i := 13) rfl
theorem m_glo_solved : He.Fa.glo "solved" ∈ fa := List.mem_of_getElem? (i := 14) rfl
theorem m_glo_share_of : He.Fa.glo "share_of" ∈ fa := List.mem_of_getElem? (i := 15) rfl
theorem m_glo_sure_for : He.Fa.glo "sure_for" ∈ fa := List.mem_of_getElem? (i := 16) rfl
theorem m_glo_sure_chance : He.Fa.glo "sure_chance" ∈ fa := List.mem_of_getElem? (i := 17) rfl
theorem m_glo_pairs_in : He.Fa.glo "pairs_in" ∈ fa := List.mem_of_getElem? (i := 18) rfl
theorem m_glo_forbidden : He.Fa.glo "forbidden" ∈ fa := List.mem_of_getElem? (i := 19) rfl
theorem m_glo_gains : He.Fa.glo "gains" ∈ fa := List.mem_of_getElem? (i := 20) rfl
theorem m_glo_law_vat : He.Fa.glo "_law_vat" ∈ fa := List.mem_of_getElem? (i := 21) rfl
theorem m_glo_law_tap : He.Fa.glo "_law_tap" ∈ fa := List.mem_of_getElem? (i := 22) rfl
theorem m_glo_law_one : He.Fa.glo "_law_one" ∈ fa := List.mem_of_getElem? (i := 23) rfl
theorem m_glo_law_below : He.Fa.glo "_law_below" ∈ fa := List.mem_of_getElem? (i := 24) rfl
theorem m_glo_law_weights : He.Fa.glo "_law_weights" ∈ fa := List.mem_of_getElem? (i := 25) rfl
theorem m_glo_law_lot : He.Fa.glo "_law_lot" ∈ fa := List.mem_of_getElem? (i := 26) rfl
theorem m_glo_law_sayings : He.Fa.glo "_law_sayings" ∈ fa := List.mem_of_getElem? (i := 27) rfl
theorem m_glo_law_said : He.Fa.glo "_law_said" ∈ fa := List.mem_of_getElem? (i := 28) rfl
theorem m_glo_law_pairs : He.Fa.glo "_law_pairs" ∈ fa := List.mem_of_getElem? (i := 29) rfl
theorem m_glo_law_less : He.Fa.glo "_law_less" ∈ fa := List.mem_of_getElem? (i := 30) rfl
theorem m_glo_law_right : He.Fa.glo "_law_right" ∈ fa := List.mem_of_getElem? (i := 31) rfl
theorem m_glo_law : He.Fa.glo "law" ∈ fa := List.mem_of_getElem? (i := 32) rfl
theorem m_glo_Teller : He.Fa.glo "Teller" ∈ fa := List.mem_of_getElem? (i := 33) rfl
theorem m_glo_Table : He.Fa.glo "Table" ∈ fa := List.mem_of_getElem? (i := 34) rfl
theorem m_glo_NONE : He.Fa.glo "NONE" ∈ fa := List.mem_of_getElem? (i := 35) rfl
theorem m_glo_WHOLE : He.Fa.glo "WHOLE" ∈ fa := List.mem_of_getElem? (i := 36) rfl
theorem m_free_isinstance : He.Fa.free "isinstance" ∈ fa := List.mem_of_getElem? (i := 37) rfl
theorem m_free_int : He.Fa.free "int" ∈ fa := List.mem_of_getElem? (i := 38) rfl
theorem m_free_bool : He.Fa.free "bool" ∈ fa := List.mem_of_getElem? (i := 39) rfl
theorem m_free_tuple : He.Fa.free "tuple" ∈ fa := List.mem_of_getElem? (i := 40) rfl
theorem m_free_len : He.Fa.free "len" ∈ fa := List.mem_of_getElem? (i := 41) rfl
theorem m_free_all : He.Fa.free "all" ∈ fa := List.mem_of_getElem? (i := 42) rfl
theorem m_free_any : He.Fa.free "any" ∈ fa := List.mem_of_getElem? (i := 43) rfl
theorem m_free_enumerate : He.Fa.free "enumerate" ∈ fa := List.mem_of_getElem? (i := 44) rfl
theorem m_free_range : He.Fa.free "range" ∈ fa := List.mem_of_getElem? (i := 45) rfl
theorem m_free_abs : He.Fa.free "abs" ∈ fa := List.mem_of_getElem? (i := 46) rfl
theorem m_free_sum : He.Fa.free "sum" ∈ fa := List.mem_of_getElem? (i := 47) rfl
theorem m_free_zip : He.Fa.free "zip" ∈ fa := List.mem_of_getElem? (i := 48) rfl
theorem m_free_str : He.Fa.free "str" ∈ fa := List.mem_of_getElem? (i := 49) rfl
theorem m_free_repr : He.Fa.free "repr" ∈ fa := List.mem_of_getElem? (i := 50) rfl
theorem m_free_max : He.Fa.free "max" ∈ fa := List.mem_of_getElem? (i := 51) rfl
theorem m_free_min : He.Fa.free "min" ∈ fa := List.mem_of_getElem? (i := 52) rfl
theorem m_free_divmod : He.Fa.free "divmod" ∈ fa := List.mem_of_getElem? (i := 53) rfl
theorem m_free_sorted : He.Fa.free "sorted" ∈ fa := List.mem_of_getElem? (i := 54) rfl
theorem m_int_MOST_CASES : He.Fa.int "MOST_CASES" 8 ∈ fa := List.mem_of_getElem? (i := 55) rfl
theorem m_int_MOST_WEIGHT : He.Fa.int "MOST_WEIGHT" 1000000 ∈ fa := List.mem_of_getElem? (i := 56) rfl
theorem m_int_MOST_SAYINGS : He.Fa.int "MOST_SAYINGS" 16 ∈ fa := List.mem_of_getElem? (i := 57) rfl
theorem m_int_LEAST_CASES : He.Fa.int "LEAST_CASES" 2 ∈ fa := List.mem_of_getElem? (i := 58) rfl
theorem m_cls_Teller : He.Fa.cls "Teller" ∈ fa := List.mem_of_getElem? (i := 59) rfl
theorem m_cls_Table : He.Fa.cls "Table" ∈ fa := List.mem_of_getElem? (i := 60) rfl
theorem m_noat_Teller_held : He.Fa.noat "Teller" "held" ∈ fa := List.mem_of_getElem? (i := 61) rfl
theorem m_noat_Table_many : He.Fa.noat "Table" "many" ∈ fa := List.mem_of_getElem? (i := 62) rfl
theorem m_noat_Table_rows : He.Fa.noat "Table" "rows" ∈ fa := List.mem_of_getElem? (i := 63) rfl
theorem m_noat_Table_last : He.Fa.noat "Table" "last" ∈ fa := List.mem_of_getElem? (i := 64) rfl
theorem m_noat_Table_base : He.Fa.noat "Table" "base" ∈ fa := List.mem_of_getElem? (i := 65) rfl
theorem m_meth_Teller_said_in : He.Fa.meth "Teller" "said_in" ∈ fa := List.mem_of_getElem? (i := 66) rfl
theorem m_meth_Teller_str : He.Fa.meth "Teller" "__str__" ∈ fa := List.mem_of_getElem? (i := 67) rfl
theorem m_meth_Table_column : He.Fa.meth "Table" "column" ∈ fa := List.mem_of_getElem? (i := 68) rfl
theorem m_meth_Table_row : He.Fa.meth "Table" "row" ∈ fa := List.mem_of_getElem? (i := 69) rfl
theorem m_meth_Table_turn : He.Fa.meth "Table" "turn" ∈ fa := List.mem_of_getElem? (i := 70) rfl
theorem m_meth_Table_solve : He.Fa.meth "Table" "solve" ∈ fa := List.mem_of_getElem? (i := 71) rfl
theorem m_mkr_Teller : He.Fa.mkr "Teller" ∈ fa := List.mem_of_getElem? (i := 72) rfl
theorem m_mkr_Table : He.Fa.mkr "Table" ∈ fa := List.mem_of_getElem? (i := 73) rfl
theorem bt_isinstance : bootBuiltins "isinstance" = some (.builtin "isinstance") := by decide +kernel
theorem bt_int : bootBuiltins "int" = some (.type "int") := by decide +kernel
theorem bt_bool : bootBuiltins "bool" = some (.type "bool") := by decide +kernel
theorem bt_tuple : bootBuiltins "tuple" = some (.type "tuple") := by decide +kernel
theorem bt_len : bootBuiltins "len" = some (.builtin "len") := by decide +kernel
theorem bt_all : bootBuiltins "all" = some (.builtin "all") := by decide +kernel
theorem bt_any : bootBuiltins "any" = some (.builtin "any") := by decide +kernel
theorem bt_enumerate : bootBuiltins "enumerate" = some (.type "enumerate") := by decide +kernel
theorem bt_range : bootBuiltins "range" = some (.type "range") := by decide +kernel
theorem bt_abs : bootBuiltins "abs" = some (.builtin "abs") := by decide +kernel
theorem bt_sum : bootBuiltins "sum" = some (.builtin "sum") := by decide +kernel
theorem bt_zip : bootBuiltins "zip" = some (.type "zip") := by decide +kernel
theorem bt_str : bootBuiltins "str" = some (.type "str") := by decide +kernel
theorem bt_repr : bootBuiltins "repr" = some (.builtin "repr") := by decide +kernel
theorem bt_max : bootBuiltins "max" = some (.builtin "max") := by decide +kernel
theorem bt_min : bootBuiltins "min" = some (.builtin "min") := by decide +kernel
theorem bt_divmod : bootBuiltins "divmod" = some (.builtin "divmod") := by decide +kernel
theorem bt_sorted : bootBuiltins "sorted" = some (.builtin "sorted") := by decide +kernel
theorem n_is_integer : d_is_integer ∈ fn := List.mem_of_getElem? (i := 0) rfl
theorem n_is_between : d_is_between ∈ fn := List.mem_of_getElem? (i := 1) rfl
theorem n_common_divisor : d_common_divisor ∈ fn := List.mem_of_getElem? (i := 2) rfl
theorem n_fraction : d_fraction ∈ fn := List.mem_of_getElem? (i := 3) rfl
theorem n_minus : d_minus ∈ fn := List.mem_of_getElem? (i := 4) rfl
theorem n_times : d_times ∈ fn := List.mem_of_getElem? (i := 5) rfl
theorem n_over : d_over ∈ fn := List.mem_of_getElem? (i := 6) rfl
theorem n_is_less : d_is_less ∈ fn := List.mem_of_getElem? (i := 7) rfl
theorem n_is_ascending : d_is_ascending ∈ fn := List.mem_of_getElem? (i := 8) rfl
theorem n_check_weights : d_check_weights ∈ fn := List.mem_of_getElem? (i := 9) rfl
theorem n_is_lot : d_is_lot ∈ fn := List.mem_of_getElem? (i := 10) rfl
theorem n_check_sayings : d_check_sayings ∈ fn := List.mem_of_getElem? (i := 11) rfl
theorem n_Teller_init : d_Teller_init ∈ fn := List.mem_of_getElem? (i := 12) rfl
theorem n_Teller_said_in : d_Teller_said_in ∈ fn := List.mem_of_getElem? (i := 13) rfl
theorem n_Teller_str : d_Teller_str ∈ fn := List.mem_of_getElem? (i := 14) rfl
theorem n_check_teller : d_check_teller ∈ fn := List.mem_of_getElem? (i := 15) rfl
theorem n_Table_init : d_Table_init ∈ fn := List.mem_of_getElem? (i := 16) rfl
theorem n_Table_column : d_Table_column ∈ fn := List.mem_of_getElem? (i := 17) rfl
theorem n_Table_row : d_Table_row ∈ fn := List.mem_of_getElem? (i := 18) rfl
theorem n_Table_turn : d_Table_turn ∈ fn := List.mem_of_getElem? (i := 19) rfl
theorem n_Table_solve : d_Table_solve ∈ fn := List.mem_of_getElem? (i := 20) rfl
theorem n_lessened : d_lessened ∈ fn := List.mem_of_getElem? (i := 21) rfl
theorem n_solved : d_solved ∈ fn := List.mem_of_getElem? (i := 22) rfl
theorem n_share_of : d_share_of ∈ fn := List.mem_of_getElem? (i := 23) rfl
theorem n_sure_for : d_sure_for ∈ fn := List.mem_of_getElem? (i := 24) rfl
theorem n_sure_chance : d_sure_chance ∈ fn := List.mem_of_getElem? (i := 25) rfl
theorem n_pairs_in : d_pairs_in ∈ fn := List.mem_of_getElem? (i := 26) rfl
theorem n_forbidden : d_forbidden ∈ fn := List.mem_of_getElem? (i := 27) rfl
theorem n_gains : d_gains ∈ fn := List.mem_of_getElem? (i := 28) rfl
theorem n_law_vat : d_law_vat ∈ fn := List.mem_of_getElem? (i := 29) rfl
theorem n_law_tap : d_law_tap ∈ fn := List.mem_of_getElem? (i := 30) rfl
theorem n_law_one : d_law_one ∈ fn := List.mem_of_getElem? (i := 31) rfl
theorem n_law_below : d_law_below ∈ fn := List.mem_of_getElem? (i := 32) rfl
theorem n_law_weights : d_law_weights ∈ fn := List.mem_of_getElem? (i := 33) rfl
theorem n_law_lot : d_law_lot ∈ fn := List.mem_of_getElem? (i := 34) rfl
theorem n_law_sayings : d_law_sayings ∈ fn := List.mem_of_getElem? (i := 35) rfl
theorem n_law_said : d_law_said ∈ fn := List.mem_of_getElem? (i := 36) rfl
theorem n_law_pairs : d_law_pairs ∈ fn := List.mem_of_getElem? (i := 37) rfl
theorem n_law_less : d_law_less ∈ fn := List.mem_of_getElem? (i := 38) rfl
theorem n_law_right : d_law_right ∈ fn := List.mem_of_getElem? (i := 39) rfl
theorem n_law : d_law ∈ fn := List.mem_of_getElem? (i := 40) rfl
theorem n_Teller_weights : d_Teller_weights ∈ pr := List.mem_of_getElem? (i := 0) rfl
theorem n_Teller_sayings : d_Teller_sayings ∈ pr := List.mem_of_getElem? (i := 1) rfl
def nm0 : List PySem.Str := ["_wall", "WrongValue", "InvalidText", "InvalidSaying", "InvalidCase", "NotATeller", "InvalidWeights", "InvalidSayings", "DIGITS", "is_integer", "is_between", "number_in", "common_divisor", "fraction", "minus", "times", "over", "is_less", "is_ascending", "MOST_CASES"]
def nm1 : List PySem.Str := ["MOST_WEIGHT", "MOST_SAYINGS", "LEAST_CASES", "check_weights", "is_lot", "check_sayings", "cases_in", "Teller", "check_teller", "check_case", "check_saying", "NONE", "WHOLE", "Table", "lessened", "solved", "share_of", "sure_for", "sure_chance", "pairs_in"]
def nm2 : List PySem.Str := ["forbidden", "gains", "_law_vat", "_law_tap", "_law_one", "_law_below", "_law_weights", "_law_lot", "_law_sayings", "_law_said", "_law_pairs", "_law_less", "_law_right"]
def names : List PySem.Str := nm0 ++ (nm1 ++ (nm2))
/-! ### properties: their objects, their getters -/
def pAd (K : PySem.W.Frag) (p : Str × Option Str) : Addr := match PySem.W.findIn K (.ref (He.ga K p.1)) (p.2.getD "") with
  | some (some (.ref a)) => a
  | _ => 0
def gAd (K : PySem.W.Frag) (p : Str × Option Str) : Addr := match PySem.W.recIn K (pAd K p) "property" with
  | some (.ref g :: _) => g
  | _ => 0
def gW (K : PySem.W.Frag) (p : Str × Option Str) : He.FnW := match K.lookup (gAd K p) with
  | some ⟨_, _, .func fd, _⟩ => some (fd.name, fd.qualname, fd.params, fd.body, fd.scope, fd.globals, fd.closure, fd.builtins)
  | _ => none
def prOk (K : PySem.W.Frag) (d : He.DefD) : Bool :=
  He.eqO (PySem.W.findIn K (.ref (He.ga K d.at_.1)) (d.at_.2.getD "")) (some (some (.ref (pAd K d.at_)))) &&
  (He.eqO (PySem.W.specialIn K (.ref (pAd K d.at_)) "__get__") (some (some (.builtin "property.__get__"))) &&
  (decide (PySem.W.takesIn K (.ref (pAd K d.at_)) = some true) &&
  ((match PySem.W.recIn K (pAd K d.at_) "property" with
    | some (.ref _ :: _) => true
    | _ => false) &&
  (PySem.W.keepIn K (.ref (gAd K d.at_)) && (match K.lookup (gAd K d.at_) with
    | some ⟨_, _, .func fd, _⟩ => PySem.W.codeIn K fd.code d.qual && (He.dflB K fd.defaults (d.dvs K) && He.kwdB K fd.kwdefaults (d.kws K))
    | _ => false)))))
theorem gFun {K : PySem.W.Frag} {d : He.DefD} (e : gW K d.at_ = d.val) (c : (PySem.W.keepIn K (.ref (gAd K d.at_)) && (match K.lookup (gAd K d.at_) with
    | some ⟨_, _, .func fd, _⟩ => PySem.W.codeIn K fd.code d.qual && (He.dflB K fd.defaults (d.dvs K) && He.kwdB K fd.kwdefaults (d.kws K))
    | _ => false)) = true) : ∃ fd, FunD K d.name d.qual d.params d.body d.scope (d.dvs K) (d.kws K) (gAd K d.at_) fd := by
  obtain ⟨keep, body⟩ := He.ba c
  unfold gW at e
  generalize hq : K.lookup (gAd K d.at_) = q at e body
  rcases q with _ | ⟨oc, od, dt, osl⟩
  · cases body
  · cases dt with
    | func fd =>
      rcases fd with ⟨n1, n2, n3, n4, n5, n6, n7, n8, n9, n10, n11, n12, n13, n14, n15⟩
      have e3 : (some (n1, n2, n3, n4, n5, n6, n7, n15) : He.FnW) = some (d.name, d.qual, d.params, .stmts d.body, d.scope, mainGlobals, [], builtinsNs) := e
      simp only [Option.some.injEq, Prod.mk.injEq] at e3
      obtain ⟨rfl, rfl, rfl, rfl, rfl, rfl, rfl, rfl⟩ := e3
      obtain ⟨b1, b2⟩ := He.ba body
      obtain ⟨b3, b4⟩ := He.ba b2
      exact ⟨_, ⟨oc, od, n8, n9, n10, n11, n12, n13, n14, osl, rfl, hq, b1, He.dflB_ok b3, He.kwdB_ok b4⟩, keep⟩
    | _ => cases body
/-- what else is asked: the two fractions of the top, an instance's class -/
def exB (K : PySem.W.Frag) : Bool :=
  He.tupB K "NONE" [.int 0, .int 1] && (He.tupB K "WHOLE" [.int 1, .int 1] &&
  (He.eqO (PySem.W.findIn K (.ref (He.ga K "Teller")) "__class__") (some (some (.builtin "object.__class__"))) &&
  (He.eqO (PySem.W.specialIn K (.builtin "object.__class__") "__get__") (some (some (.builtin "getset_descriptor.__get__"))) &&
  (decide (PySem.W.takesIn K (.builtin "object.__class__") = some true) && decide (PySem.W.mroIn K (He.ga K "Teller") (.type "object") = some true)))))
/-! ### the Hook -/
abbrev AlK : Type := He.AlD × (List He.FnW × Bool)
def obsK (K : PySem.W.Frag) : AlK := (He.obsD fa fn K, (pr.map fun d => gW K d.at_, (pr.all fun d => prOk K d) && exB K))
def valK : AlK := (He.valD fn, (pr.map He.DefD.val, true))
def SaysK (K : PySem.W.Frag) : Prop := obsK K = valK
def obsKG (g : Addr → Option Obj) : AlK := obsK (He.frG g (He.asD g 6))
def hookK : PySem.W.Hook where
  α := AlK
  obs := fun s => obsKG s.heap.get?
  val := fun _ => valK
  says := fun _ h => ∃ K : PySem.W.Frag, K.In h ∧ SaysK K
  of := fun _ _ e => ⟨_, He.frG_in, e⟩
  keeps := fun _ _ _ ⟨K, hK, c⟩ k => ⟨K, PySem.W.Frag.In.keeps hK k, c⟩
theorem obsKG_eq {g : Addr → Option Obj} {s : Shared} (h : ∀ a, g a = s.heap.get? a) : obsKG g = hookK.obs s := by
  obtain rfl : g = s.heap.get? := funext h
  rfl
/-! ### the facts as the walk wants them -/
structure Tx (K : PySem.W.Frag) (mg : Str → Option Value) where
  fd : He.DefD → FuncData
  fdp : He.DefD → FuncData
  F : ∀ d, d ∈ fn → FunD K d.name d.qual d.params d.body d.scope [] [] (He.fAd K d.at_) (fd d)
  P : ∀ d, d ∈ pr → FunD K d.name d.qual d.params d.body d.scope [] [] (gAd K d.at_) (fdp d) ∧ PropOf K (He.ga K d.at_.1) (d.at_.2.getD "") (pAd K d.at_) (gAd K d.at_)
  glo : ∀ x, He.Fa.glo x ∈ fa → mg x = some (.ref (He.ga K x))
  free : ∀ x, He.Fa.free x ∈ fa → mg x = none
  int : ∀ x i, He.Fa.int x i ∈ fa → ∃ t, mg x = some (.int i t)
  cls : ∀ x, He.Fa.cls x ∈ fa → Cls K (He.ga K x)
  noat : ∀ x f, He.Fa.noat x f ∈ fa → NoAttr K (He.ga K x) f
  meth : ∀ x m, He.Fa.meth x m ∈ fa → Meth K (He.ga K x) m (He.ma K (He.ga K x) m)
  mkr : ∀ x, He.Fa.mkr x ∈ fa → Mk K (He.ga K x) (He.ma K (He.ga K x) "__init__")
  NONE : ∀ H, SqT K H (He.ga K "NONE") [.int 0, .int 1]
  WHOLE : ∀ H, SqT K H (He.ga K "WHOLE") [.int 1, .int 1]
  ca : PySem.W.findIn K (.ref (He.ga K "Teller")) "__class__" = some (some (.builtin "object.__class__"))
  cn : PySem.W.specialIn K (.builtin "object.__class__") "__get__" = some (some (.builtin "getset_descriptor.__get__"))
  ct : PySem.W.takesIn K (.builtin "object.__class__") = some true
  cm : PySem.W.mroIn K (He.ga K "Teller") (.type "object") = some true
theorem tx_of {K : PySem.W.Frag} {h : Heap} {mg : Str → Option Value} (X : K.In h) (G : h.Ns mainGlobals mg) (c : SaysK K) : Nonempty (Tx K mg) := by
  have c1 : He.SaysD fa fn K := congrArg (fun z : AlK => z.1) c
  have c2 : (pr.map fun d => gW K d.at_) = pr.map He.DefD.val := congrArg (fun z : AlK => z.2.1) c
  have c3 : ((pr.all fun d => prOk K d) && exB K) = true := congrArg (fun z : AlK => z.2.2) c
  obtain ⟨c4, c5⟩ := He.ba c3
  have fact : ∀ f, f ∈ fa → f.ok K = true := fun f hf => by
    obtain ⟨i, hi, e⟩ := List.mem_iff_getElem.mp hf
    exact c1.fact i (f := f) (by rw [List.getElem?_eq_getElem hi, e])
  have nil1 : ∀ d, d ∈ fn → d.dvs K = [] ∧ d.kws K = [] := by
    have : ∀ d, d ∈ fn → d.dfl = [] ∧ d.kwd = [] := by
      intro d hd
      simp only [fn, List.mem_cons, List.not_mem_nil, or_false] at hd
      repeat (rcases hd with rfl | hd; · exact ⟨rfl, rfl⟩)
    intro d hd
    obtain ⟨e1, e2⟩ := this d hd
    unfold He.DefD.dvs He.DefD.kws
    rw [e1, e2]
    exact ⟨rfl, rfl⟩
  have nil2 : ∀ d, d ∈ pr → d.dvs K = [] ∧ d.kws K = [] := by
    intro d hd
    simp only [pr, List.mem_cons, List.not_mem_nil, or_false] at hd
    rcases hd with rfl | rfl <;> exact ⟨rfl, rfl⟩
  have hF : ∀ d, ∃ fd, d ∈ fn → FunD K d.name d.qual d.params d.body d.scope [] [] (He.fAd K d.at_) fd := fun d => by
    by_cases hd : d ∈ fn
    · obtain ⟨i, hi, e⟩ := List.mem_iff_getElem.mp hd
      obtain ⟨fd, F⟩ := c1.def_ i (d := d) (by rw [List.getElem?_eq_getElem hi, e])
      rw [(nil1 d hd).1, (nil1 d hd).2] at F
      exact ⟨fd, fun _ => F⟩
    · exact ⟨PySem.W.fnOf "" "" ⟨[], [], none, [], [], none, []⟩ [] ⟨.function, [], false, false, []⟩ .none .none .none .none none .none .none, fun h => absurd h hd⟩
  have hP : ∀ d, ∃ fd, d ∈ pr → FunD K d.name d.qual d.params d.body d.scope [] [] (gAd K d.at_) fd ∧ PropOf K (He.ga K d.at_.1) (d.at_.2.getD "") (pAd K d.at_) (gAd K d.at_) := fun d => by
    by_cases hd : d ∈ pr
    · obtain ⟨i, hi, e⟩ := List.mem_iff_getElem.mp hd
      have e3 : gW K d.at_ = d.val := by
        have z : (pr.map fun d => gW K d.at_)[i]? = (pr.map He.DefD.val)[i]? := by rw [c2]
        rw [List.getElem?_map, List.getElem?_map, List.getElem?_eq_getElem hi, e] at z
        exact Option.some.inj z
      obtain ⟨p1, q⟩ := He.ba (List.all_eq_true.mp c4 d hd)
      obtain ⟨p2, q⟩ := He.ba q
      obtain ⟨p3, q⟩ := He.ba q
      obtain ⟨p4, q⟩ := He.ba q
      obtain ⟨fd, F⟩ := gFun e3 q
      rw [(nil2 d hd).1, (nil2 d hd).2] at F
      refine ⟨fd, fun _ => ⟨F, ⟨He.eqO_ok p1, He.eqO_ok p2, of_decide_eq_true p3, ?_⟩⟩⟩
      unfold gAd
      split at p4
      · rename_i g rest hr
        rw [hr]
        exact ⟨rest, rfl⟩
      · cases p4
    · exact ⟨PySem.W.fnOf "" "" ⟨[], [], none, [], [], none, []⟩ [] ⟨.function, [], false, false, []⟩ .none .none .none .none none .none .none, fun h => absurd h hd⟩
  obtain ⟨x1, y⟩ := He.ba c5
  obtain ⟨x2, y⟩ := He.ba y
  obtain ⟨x3, y⟩ := He.ba y
  obtain ⟨x4, y⟩ := He.ba y
  obtain ⟨x5, x6⟩ := He.ba y
  exact ⟨{
    fd := fun d => Classical.choose (hF d)
    fdp := fun d => Classical.choose (hP d)
    F := fun d hd => Classical.choose_spec (hF d) hd
    P := fun d hd => Classical.choose_spec (hP d) hd
    glo := fun x h => He.glo_ok X G (fact _ h)
    free := fun x h => He.free_ok X G (fact _ h)
    int := fun x i h => He.int_ok X G (fact _ h)
    cls := fun x h => He.cls_ok (fact _ h)
    noat := fun x f h => He.noat_ok (fact _ h)
    meth := fun x m h => He.meth_ok (fact _ h)
    mkr := fun x h => He.mkr_ok (fact _ h)
    NONE := fun H => He.tupB_ok x1 H
    WHOLE := fun H => He.tupB_ok x2 H
    ca := He.eqO_ok x3
    cn := He.eqO_ok x4
    ct := of_decide_eq_true x5
    cm := of_decide_eq_true x6 }⟩
end Kg


set_option maxHeartbeats 0
/-! The head: the top's run by the kernel, with the facts. -/
namespace Kg
open PySem PySem.Spec PyProof.Rows L2
abbrev R : PySem.W.OpenRow := PySem.W.OpenLaw.row PySem.Challenge.rw_tellerhabits_k47_whole_gains
def ob (s : PySem.W.SharedT) : AlK := obsKG (HandSHeadRun.getT s)
theorem ob_eq (s : PySem.W.SharedT) : ob s = hookK.obs s.abs := obsKG_eq (HandSHeadRun.getT_eq s)
theorem run (w : World) : HandSHeadRun.RunEq R (PySem.W.view R.prog [59]) hookK ob 20000 names w := by
  intro os
  kernel_rfl
end Kg

set_option maxHeartbeats 4000000
/-! Rule: for i, x in enumerate(t), t a tuple. -/
namespace Kg
open PySem PySem.Spec PyProof.Rows L2
open Sem (wp)
open AutoSeq1 (wpAny_loadPart')
theorem meets_enumT (l : Addr) (items : Array Value) (n : Nat) (dct : Option Addr) (sl : Array (Option Value)) :
    Meets (Builtin.«enumerate.__new__» ⟨[.type "enumerate", .ref l], []⟩) (fun _ R s => s.heap.get? l = some { cls := .type "tuple", dict := dct, data := .seq items n, slots := sl } ∧
      R (.ok (.ret (.ref (s.heap.push { cls := .type "tuple_iterator", data := .fields #[.ref l, .int 0 0] }).objs.size)))
        { s with heap := (s.heap.push { cls := .type "tuple_iterator", data := .fields #[.ref l, .int 0 0] }).push { cls := .type "enumerate", data := .fields #[.none, .bool false, .ref s.heap.objs.size, rawInt 0, .none, .none] } }) :=
  .of_wp fun prog w A R s h => by
    obtain ⟨hp, g, d, tk, os⟩ := s
    obtain ⟨hl, h⟩ := h
    have hsub := sub_enumerate
    have hT : Heap.IsTuple (Shared.heap ⟨hp, g, d, tk, os⟩) l items := ⟨_, hl, rfl, n, rfl⟩
    wp_walk using wpAny_loadPart' hl
    refine wpAny_stack_any fun st => wpAny_pure ?_
    split
    · rename_i c _ _ _ _ _
      cases (c == Value.type "enumerate")
      · wp_walk using wpAny_loadPart' hl, wpAny_pyIter_tuple hT
        exact ⟨_, rfl, h⟩
      · wp_walk using wpAny_loadPart' hl, wpAny_pyIter_tuple hT
        exact ⟨_, rfl, h⟩
    · wp_walk using wpAny_loadPart' hl, wpAny_pyIter_tuple hT
      exact ⟨_, rfl, h⟩
section
variable {prog : Program} {w : World} {A : Around} {E : Value → Shared → Prop} {s : Shared}
theorem call_enumT {l : Addr} {items : Array Value} {Q : Value → Shared → Prop} (hL : s.heap.IsTuple l items)
    (h : ∀ h', IsEnum h' (s.heap.objs.size + 1) s.heap.objs.size 0 .none → h'.IsTupleIter s.heap.objs.size l 0 → h'.objs.size = s.heap.objs.size + 2 →
      (∀ b o, s.heap.get? b = some o → h'.get? b = some o) → Q (.ref (s.heap.objs.size + 1)) { s with heap := h' }) :
    wpAny (model prog w) A (call (.type "enumerate") [.ref l]) Q E s := by
  obtain ⟨⟨c, dct, dt, sl⟩, hl, hc, n, hd⟩ := hL
  have hc1 : c = .type "tuple" := hc
  have hd1 : dt = .seq items n := hd
  subst hc1 hd1
  refine callType_new F.called_enumerate (by decide) (F.typeCall_enumerate_1 _) (F.newCall_enumerate_1 _) (fun obj => F.args_object_init_2 obj _) F.entry_enumerate_new (meets_enumT l items n dct sl) ⟨hl, ?_⟩
  have hz : (s.heap.push { cls := .type "tuple_iterator", data := .fields #[.ref l, .int 0 0] }).objs.size = s.heap.objs.size + 1 := Heap.size_push ..
  show _ ∧ _
  rw [hz]
  have hit := Heap.get?_push_size s.heap (o := { cls := .type "tuple_iterator", data := .fields #[.ref l, .int 0 0] }) rfl
  have hen := Heap.get?_push_size (s.heap.push { cls := .type "tuple_iterator", data := .fields #[.ref l, .int 0 0] }) (o := { cls := .type "enumerate", data := .fields #[.none, .bool false, .ref s.heap.objs.size, rawInt 0, .none, .none] }) rfl
  rw [hz] at hen
  exact ⟨⟨_, hen, rfl⟩, h _ hen ⟨_, Heap.get?_push_of_some _ hit, rfl, rfl⟩ (by rw [Heap.size_push, hz]) fun b o q => Heap.get?_push_of_some _ (Heap.get?_push_of_some _ q)⟩
end
/-- the tuple at a, each item in a new pair -/
def IteT (K : PySem.W.Frag) (a : Addr) : It where
  go := fun i H => ∃ (xs : List V) (x : V), SqT K H a xs ∧ xs[i]? = some x
  yld := fun i H v H' => ∃ T x, v = .ref T ∧ H T = none ∧ H' = upd H T (.tup [.int (i : Nat), x]) ∧ ∀ xs, SqT K H a xs → xs[i]? = some x
  stop := fun i H => ∃ xs : List V, SqT K H a xs ∧ xs.length = i
theorem turn_enumT {P : Program} {w : World} {K : PySem.W.Frag} {elts : List Expr} {kk : Nat} {tpos : Pos} (a e it : Addr) :
    Turn P w K (.Tuple elts kk tpos) (IteT K a) [e, it] e (fun i h => (∃ old, IsEnum h e it ((i : Nat) : Int) old) ∧ h.IsTupleIter it a i ∧ e ≠ it) where
  mem := List.mem_cons_self
  obj := by
    rintro i h ⟨⟨old, he⟩, ⟨o, ho, _, hd⟩, _⟩ b hb
    rcases List.mem_cons.mp hb with z | hb
    · rw [z]; exact ⟨_, he, fun v q => nomatch q⟩
    · rw [List.mem_singleton.mp hb]; exact ⟨o, ho, fun v q => by rw [hd] at q; cases q⟩
  keep := by
    rintro i h h' ⟨⟨old, he⟩, hi, hne⟩ k
    exact ⟨⟨old, k e List.mem_cons_self _ he⟩, hi.at fun o q => k it (List.mem_cons_of_mem _ List.mem_cons_self) o q, hne⟩
  self := fun A i s Q E st h => let ⟨⟨_, he⟩, _⟩ := st; wpAny_pyIter_enum he h
  item := by
    intro X hP hw hK hc i pins s σ H E I hf st hg
    subst hP hw hK
    obtain ⟨⟨old, he⟩, hit, hne⟩ := st
    obtain ⟨xs, x, hq, hx⟩ := hg
    obtain ⟨its, rv, p, hz⟩ := I.tuple hq
    obtain ⟨u, hu, ru⟩ := rv.get hx
    have htup : s.heap.IsTuple a its.toArray := p
    have nei : a ≠ it := by
      rintro rfl
      obtain ⟨o, h1, c1, _⟩ := hit
      obtain ⟨o', h2, c2, _⟩ := htup
      rw [h1] at h2; cases h2
      rw [c1] at c2; revert c2; decide
    have nee : a ≠ e := by
      rintro rfl
      obtain ⟨o', h2, c2, _⟩ := htup
      rw [show s.heap.get? a = some _ from he] at h2; cases h2
      exact absurd (show Value.type "enumerate" = Value.type "tuple" from c2) (by decide)
    have hlt : i < its.toArray.size := by
      have := (List.getElem?_eq_some_iff.mp hu).1
      simpa using this
    have hel : e < s.heap.objs.size := Heap.lt_size he
    have hil : it < s.heap.objs.size := let ⟨_, q, _⟩ := hit; Heap.lt_size q
    refine wpAny_pyNext_enum_itemC (Draws.tuple (prog := X.prog) (w := X.w) (A := X.A.in1) (I.ok.hd hc) it a nei its.toArray) he ⟨hit, htup⟩ hlt hne (by simp; exact ⟨hne, fun z => nee z.symm⟩) fun y h' tk hy ho hit' hT hsz hk => ?_
    have ey : y = u := by
      have hy' : its.toArray[i]? = some y := hy
      have : its[i]? = some y := by simpa using hy'
      rw [hu] at this
      exact (Option.some.inj this).symm
    subst ey
    refine ⟨_, rfl, wpAny_letOwnedTupleGo_enum (s := { s with heap := h', toks := tk + 1 }) ho fun h2 he2 sb => ?_⟩
    have hT2 : h2.get? s.heap.objs.size = some { cls := .type "tuple", data := .seq #[.int i tk, y] } := (sb.2 _ (Nat.ne_of_gt hel)).trans hT
    have new : ObjOk X.prog X.w (upd H s.heap.objs.size (.tup [.int (i : Nat), x])) h2 s.heap.objs.size (.tup [.int (i : Nat), x]) :=
      ⟨by show 2 ≤ sizeLine; decide, [.int i tk, y], .cons ⟨_, rfl⟩ (.cons ru .nil), ⟨_, hT2, rfl, _, rfl⟩⟩
    have I1 : Inv X pins σ (upd H s.heap.objs.size (.tup [.int (i : Nat), x])) { s with heap := h2, toks := tk + 1 } :=
      I.turnedNew (ch := [e, it]) (fun b ob hb q => (sb.2 b (fun z => hb (by simp [z]))).trans (hk b ob (fun z => hb (by simp [z])) (fun z => hb (by simp [z])) q)) hf (Nat.le_refl _) new
    refine ⟨.ref s.heap.objs.size, _, I1, rfl, ⟨_, x, rfl, I.hok.fresh (Nat.le_refl _), rfl, fun ys hy => by rw [I.tuple_inj hy hq]; exact hx⟩, ⟨⟨y, ?_⟩, hit'.1.at fun o q => (sb.2 it (Ne.symm hne)).trans q, hne⟩, fun b hb => ?_⟩
    · rw [show ((i + 1 : Nat) : Int) = (i : Int) + 1 by omega]
      exact he2
    · have hb' : b < s.heap.objs.size := by
        rcases List.mem_cons.mp hb with z | hb
        · rw [z]; exact hel
        · rw [List.mem_singleton.mp hb]; exact hil
      rw [upd_ne (Nat.ne_of_lt hb')]
      exact (hf b hb).1
  done := by
    intro X hP hw hK hc i pins s σ H E I hf st hg
    subst hP hw hK
    obtain ⟨⟨old, he⟩, hit, hne⟩ := st
    obtain ⟨xs, hq, hx⟩ := hg
    obtain ⟨its, rv, p, hz⟩ := I.tuple hq
    obtain ⟨f0, f1, f2, f3, f4, f5⟩ := hf it (List.mem_cons_of_mem _ List.mem_cons_self)
    have hl := rv.length
    have htup : s.heap.IsTuple a its.toArray := p
    have nei : a ≠ it := by
      rintro rfl
      obtain ⟨o, h1, c1, _⟩ := hit
      obtain ⟨o', h2, c2, _⟩ := htup
      rw [h1] at h2; cases h2
      rw [c1] at c2; revert c2; decide
    have hi : i = its.toArray.size := by
      rw [List.size_toArray, ← hl, hx]
    exact wpAny_pyNext_enum_endD (Draws.tuple (prog := X.prog) (w := X.w) (A := X.A.in1) (I.ok.hd hc) it a nei its.toArray) he ⟨by rw [← hi]; exact hit, htup⟩ fun h' eb => ⟨rfl, I.turned (t' := s.toks) (fun b o hb q => eb b o hb q) f0 f1 f3 f4 f5⟩
/-- enumerate(e), a tuple -/
def iEnumT (K : PySem.W.Frag) (ta : TA) : TI := fun σ H R => ta σ H fun vs H1 => ∃ a xs, vs = [.ref a] ∧ SqT K H1 a xs ∧ R (IteT K a) H1
theorem pi_enumT {X : Cx} {e : Expr} {ta : TA} {p pos tpos : Pos} {elts : List Expr} {kk : Nat} (hg : Gl X "enumerate") (hm : X.mg "enumerate" = none) (ha : PA X [e] ta) (hs : starEach [e] X.env = [(false, eval e X.env)] := by rfl) :
    PI X (.Tuple elts kk tpos) (.Call (.Name "enumerate" p) [e] [] pos) (iEnumT X.K ta) := by
  constructor
  intro pins s σ H R I h
  refine Call_ (ld_blt I hg hm boot_enumerate (PyProof.Rows.callWith_type1 (thn (ha.run pos pins s σ H _ I h) ?_) hs rfl))
  rintro us s1 ⟨vs, H1, I1, r1, a, xs, rfl, hq, q⟩
  cases r1 with
  | cons r rr =>
    cases rr
    cases r
    obtain ⟨its, rv, p', hz⟩ := I1.tuple hq
    refine call_enumT (show s1.heap.IsTuple a its.toArray from p') fun h' he hit hsz hk => wpAny_pyIter_enum he ?_
    refine ⟨s1.heap.objs.size + 1, [s1.heap.objs.size + 1, s1.heap.objs.size], _, _, H1, rfl, I1.kept (t' := s1.toks) hk, turn_enumT a (s1.heap.objs.size + 1) s1.heap.objs.size, ⟨⟨.none, he⟩, hit, Nat.succ_ne_self _⟩, fun b hb => ?_, q⟩
    have hle : s1.heap.objs.size ≤ b := by
      rcases List.mem_cons.mp hb with z | hb
      · rw [z]; exact Nat.le_succ _
      · rw [List.mem_singleton.mp hb]; exact Nat.le_refl _
    exact I1.fpOk hle (I1.hok.fresh hle)
theorem walk_enumT {K : PySem.W.Frag} {a : Addr} {xs : List V} : Walk (IteT K a) xs.length (fun H => SqT K H a xs) (YPair (fun i => some (.int (i : Nat))) (fun i => xs[i]?)) where
  goes := fun i _ hi q => ⟨xs, xs[i], q, by simp [hi]⟩
  stops := fun _ q => ⟨xs, q, rfl⟩
  yields := by
    rintro i H v H' _ q ⟨T, x, h1, h2, h3, h4⟩
    exact ⟨T, .int (i : Nat), x, h1, h2, h3, rfl, h4 xs q⟩
end Kg

set_option maxHeartbeats 4000000
/-! Rules: repr of data, str of an own instance, sorted of a tuple of ints, defs that want to know what is being shown. -/
namespace Kg
open PySem PySem.Spec PyProof.Rows L2
section
variable {X : Cx}
/-- repr(e) of data without dicts -/
def rRepr (K : PySem.W.Frag) : List V → Hp → VK → Prop := fun vs H Q => ∃ (a : Addr) (d : PyData), vs = [.ref a] ∧ Dp K H (.ref a) d ∧ d.showable = true ∧ d.hasDict = false ∧ d.depth ≤ 60 ∧ d.shown.length ≤ sizeLine ∧ Q (.str d.shown) H
theorem call_reprD (hg : X.A.guards = some []) (hu : X.A.units + 64 < cLine) : CallR X (.builtin "repr") (rRepr X.K) := by
  rintro pins s σ H vs us Q I r ⟨a, d, rfl, hd, h1, h2, h3, h4, q⟩
  rw [Vals.ref1 r]
  obtain ⟨as, rd⟩ := Dp.reads I d (.ref a) (.ref a) hd rfl
  refine repr_of_reads' rd h1 (fun z => by rw [h2] at z; cases z) hg (by omega) (fun _ _ e => e) (fun h' u tk hk => ?_) h4
  exact ⟨.str d.shown, H, I.kept hk, ⟨u, rfl⟩, q⟩
/-- str(o), o an own instance whose class has __str__ at f -/
def rStrO (C : Addr) (sp : Sp) : List V → Hp → VK → Prop := fun vs H Q => ∃ (a dx : Addr) (fs : List (Str × V)), vs = [.ref a] ∧ H a = some (.ins C dx fs) ∧ sp [.ref a] H (fun v H' => ∃ y, v = .str y ∧ Q (.str y) H') E0
theorem call_strO {CX : CXT} {k : Nat} {C f : Addr} {fd : FuncData} {ps : List Str} {sp : Sp} (F : FnOk X.prog X.w X.K X.mg X.base CX k f fd ps sp) (hm : Meth X.K C "__str__" f) (hr : Room (k + 2) X.A) (hb : Binds X.K fd ps []) (hx : Passes CX X.nox E0) :
    CallR X (.type "str") (rStrO C sp) := by
  rintro pins s σ H vs us Q I r ⟨a, dx, fs, rfl, ea, h⟩
  rw [Vals.ref1 r]
  obtain ⟨mA, O, _, _, _, _⟩ := ins_get I.hok ea
  obtain ⟨od, J, _⟩ := O.look
  have r1 : Room (k + 1) X.A.in1 := hr.in1
  have r2 : Room k X.A.in1.in1 := r1.in1
  refine PySem.W.kso_call r2.units0 I.kIn J hm.at_ hm.fn (wpAny_call ?_)
  have hl : ([Value.ref a] ++ []).length = ps.length := by rw [← F.len _ _ _ _ h]; rfl
  refine codeAny_mono (F.run X.A.in1.in1 X.stack s H ⟨[.ref a], []⟩ [.ref a] [.ref a] _ E0 r2 I.env0.in1.in1 (hb s [.ref a] I.kIn hl) (.cons rfl .nil) h) fun e s' hq => ?_
  cases e with
  | error er => exact (hx pins σ H s er s' (I.wish _) hq).elim
  | ok fl =>
    cases fl with
    | ret u =>
      obtain ⟨v, H', I3, rv, y, ey, q3⟩ := I.after hq
      subst ey
      obtain ⟨t, rfl⟩ := rv
      exact ⟨.str y, H', I3, ⟨t, rfl⟩, q3⟩
    | next => exact hq.elim
    | brk => exact hq.elim
    | cont => exact hq.elim
end
/-! ### sorted(t), t a tuple of ints -/
section
variable {prog : Program} {w : World} {A : Around} {E : Value → Shared → Prop} {s : Shared}
theorem collect_tupT {l : Addr} {vs : List Value} {Q : List Value → Shared → Prop} (hl : s.heap.IsTuple l vs.toArray) (hz : vs.length ≤ sizeLine)
    (h : Q vs { s with heap := (s.heap.push (seqObj "list" #[] 0)).update s.heap.objs.size (Obj.mapSeq (· ++ vs.toArray)) }) :
    wpAny (model prog w) A (collect (.ref l)) Q E s := by
  obtain ⟨o, ho, hc, n, hd⟩ := id hl
  have old := Heap.get?_push_of_some (seqObj "list" #[] 0) ho
  have new := Heap.get?_push_size s.heap (o := seqObj "list" #[] 0) rfl
  unfold collect
  refine wpAny_bind (wpAny_runValue (codeAny_builtin entry_proto_collect' ?_))
  show wpAny _ _ (do again (.builtin "list.__iadd__" ⟨[← newList [], .ref l], []⟩)) _ _ s
  refine wpAny_bind (wpAny_newList (wpAny_pure ⟨Code.quiet_builtin _ (by decide +kernel), codeAny_builtin entry_list_iadd' ?_⟩))
  show wpAny _ _ (Builtin.List.listExtendWith (.ref s.heap.objs.size) (.ref l) (.ref s.heap.objs.size)) _ _ { s with heap := s.heap.push (seqObj "list" #[] 0) }
  unfold Builtin.List.listExtendWith
  refine wpAny_bind (wpAny_typeOf (T := "tuple") ⟨o, old, hc⟩ ?_)
  have same : (Value.type "tuple" == Value.type "tuple") = true := by rfl
  rw [if_pos (by rw [same]; simp)]
  refine wpAny_bind (listItems_at old hd ?_)
  refine wpAny_bind (listItems_at (xs := #[]) (n := 0) new rfl ?_)
  rw [if_neg (by simp)]
  refine wpAny_bind (listUpdate_at (xs := #[]) (n := 0) new rfl ?_ (Nat.zero_le _) (by show (#[] ++ vs.toArray).size ≤ sizeLine + 1; simp only [Array.size_append, List.size_toArray, List.length_nil]; omega))
  refine wpAny_pure ?_
  show wpAny (model prog w) A (do
      let o ← load s.heap.objs.size
      match o.data with
      | .seq xs _ => pure xs.toList
      | _ => unsupported "internal:collect") Q E { s with heap := (s.heap.push (seqObj "list" #[] 0)).update s.heap.objs.size (Obj.mapSeq (· ++ vs.toArray)) }
  refine wpAny_bind (wpAny_load (get?_update_seq new _) ?_)
  show wpAny _ _ (pure ((#[] : Array Value) ++ vs.toArray).toList) Q E _
  rw [show ((#[] : Array Value) ++ vs.toArray).toList = vs by simp]
  exact wpAny_pure h
theorem sorted_tupT {l : Addr} {vs : List Value} {ns : List Int} {Q : Value → Shared → Prop} (hl : s.heap.IsTuple l vs.toArray) (hI : IntsAre vs ns) (h64 : vs.length < 64)
    (h : ∀ (out : Array Value) (ns' : List Int), IntsAre out.toList ns' → ns'.Perm ns → ns'.Pairwise (· ≤ ·) → Q (.ref (s.heap.objs.size + 1)) { s with heap := sortedAll s.heap vs out }) :
    wpAny (model prog w) A (call (.builtin "sorted") [.ref l]) Q E s := by
  have hsz : ((s.heap.push (seqObj "list" #[] 0)).update s.heap.objs.size (Obj.mapSeq (· ++ vs.toArray))).objs.size = s.heap.objs.size + 1 := by
    rw [Heap.size_update, size_push']
  have hoL : (((s.heap.push (seqObj "list" #[] 0)).update s.heap.objs.size (Obj.mapSeq (· ++ vs.toArray))).push (seqObj "list" vs.toArray 0)).get? (s.heap.objs.size + 1) = some (seqObj "list" vs.toArray 0) := by
    rw [← hsz]
    exact Heap.get?_push_size _ rfl
  refine Calls.call_function_entry kind_sorted plain_sorted entry_sorted (args_sorted1 _) ?_
  unfold Builtin.«sorted»
  refine wpAny_bind (m := checkCount "sorted" 1 1 _) (wpAny_pure ?_)
  refine wpAny_bind (collect_tupT hl (by rw [sizeLine_eq]; omega) (wpAny_bind (wpAny_newList ?_)))
  show wpAny _ _ _ _ _ { s with heap := ((s.heap.push (seqObj "list" #[] 0)).update s.heap.objs.size (Obj.mapSeq (· ++ vs.toArray))).push (seqObj "list" vs.toArray 0) }
  rw [hsz]
  exact wpAny_bind (wpAny_holding (wpAny_call_entry slot_list_sort ⟨_, hoL, rfl⟩ entry_list_sort (list_sort_tree hoL hI h64 fun out ns' a1 a2 a3 => ⟨_, rfl, wpAny_pure ⟨_, rfl, h out ns' a1 a2 a3⟩⟩) (args_list_sort _)))
end
def rSortT (K : PySem.W.Frag) : List V → Hp → VK → Prop := fun vs H Q => ∃ (a : Addr) (ns : List Int), vs = [V.ref a] ∧ SqT K H a (ns.map V.int) ∧ ns.length < 64 ∧
  ∀ (ns' : List Int) (p : Addr), ns'.Perm ns → ns'.Pairwise (· ≤ ·) → H p = none → Q (.ref p) (upd H p (.lst (ns'.map V.int)))
theorem cr_sortT {X : Cx} : CallR X (.builtin "sorted") (rSortT X.K) := by
  rintro pins s σ H vs us Q I r ⟨a, ns, rfl, hs, h64, q⟩
  obtain ⟨its, rv, hl, _⟩ := I.tuple hs
  rw [Vals.ref1 r]
  have hi := rv.ints
  refine sorted_tupT (show s.heap.IsTuple a its.toArray from hl) hi (by rw [hi.length]; exact h64) fun out ns' h1 h2 h3 => ?_
  obtain ⟨ep, here⟩ := PyProof.Rows.sortedAll_at s.heap its out
  have hlen : (ns'.map V.int).length ≤ sizeLine := by rw [List.length_map, h2.length_eq]; exact small64 h64
  refine ⟨.ref (s.heap.objs.size + 1), upd H (s.heap.objs.size + 1) (.lst (ns'.map V.int)), ?_, rfl, q ns' _ h2 h3 (I.hok.fresh (Nat.le_succ _))⟩
  exact I.laid (t' := s.toks) (fun _ _ => PyProof.Rows.sortedAll_old) (Nat.le_succ _) ⟨hlen, out.toList, ep, vals_of_ints h1, here⟩
/-! ### defs below which nothing is being shown -/
structure FnG (P : Program) (w : World) (K : PySem.W.Frag) (mg : Str → Option Value) (base : Heap) (k : Nat) (f : Addr) (fd : FuncData) (ps : List Str) (sp : Sp) : Prop where
  len : ∀ vs H Q E, sp vs H Q E → vs.length = ps.length
  run : ∀ (A : Around) (outer : List Env) (s : Shared) (H : Hp) (args : Args) (us : List Value) (vs : List V) (Q : VK), Room k A → A.guards = some [] → Env0 P w K mg base A outer s H → BindsTo s fd args (ps.zip us) → Vals vs us → sp vs H Q E0 →
    codeAny (model P w) A (.call (.ref f) args) (CR CX0 outer P w H s Q E0) s
section
variable {P : Program} {w : World} {K : PySem.W.Frag} {mg : Str → Option Value} {base : Heap}
theorem fnG_of {x qual : Str} {params : Arguments} {body : List Stmt} {scope : Scope} {f : Addr} {fd : FuncData} {N ps : List Str} {k : Nat} {sp : Sp} (F : FunD K x qual params body scope [] [] f fd) (S : FnScope N ps scope) (len : ∀ vs H Q E, sp vs H Q E → vs.length = ps.length)
    (hbody : ∀ (cdv : Value) (A : Around) (outer : List Env) (s : Shared) (H : Hp) (vs : List V) (Q : VK), Room k (A.deeper (envOfC qual scope s.heap.objs.size f cdv)) → (A.deeper (envOfC qual scope s.heap.objs.size f cdv)).guards = some [] → sp vs H Q E0 →
      ∃ t, PSs (cxOf CX0 P w K mg base N qual scope f cdv A outer s H E0) body t ∧ t { nx := fun _ H' => Q .non H', rt := Q } (start N vs) H) : FnG P w K mg base (k + 1) f fd ps sp := by
  obtain ⟨oc, od, dV, kV, doc, pm, an, cdv, ct, osl, rfl, lk, hcd, _, _⟩ := F.ex
  refine ⟨len, fun A outer s H args us vs Q hr hgd e0 hb r hsp => ?_⟩
  have KX : K.In s.heap := e0.mod.kin.keeps fun b o e => (e0.bs b o e).1
  have lim : s.heap.NoLimit := e0.mod.nolimit.keeps fun b o e => (e0.bs b o e).1
  have kinds : ∀ y ∈ ps.zip us, scope.names.lookup y.1 = some .local ∨ (scope.names.lookup y.1 = some .cell ∧ ((cellsFrom (s.heap.objs.size + 1) scope.names []).lookup y.1).isSome = true) := by
    rintro ⟨n, v⟩ hy
    rcases S.par n (List.of_mem_zip hy).1 with q | q
    · exact .inl q
    · exact .inr ⟨q, PySem.W.cellsFrom_some _ _ _ (.inl q)⟩
  refine codeAny_call_function hr.depth (KX _ _ lk) rfl S.co S.gen rfl (PySem.W.codeRec_of KX hcd) (hb _ _ _ _ ?_)
  refine wpAny_newFunctionEnv_cells S.kind kinds ?_
  rintro env rfl s1 x
  obtain ⟨t, ht, hq⟩ := hbody cdv A outer s H vs Q (hr.deeper _) (by show A.guards = some []; exact hgd) hsp
  have I : Inv (cxOf CX0 P w K mg base N qual scope f cdv A outer s H E0) [] (start N vs) H s1 := inv_start S hr.hd e0 (len _ _ _ _ hsp) r x
  refine ⟨lim.keeps x.toInCall.keep, codeAny_func (wpAny_mono (ht.run [] s1 (start N vs) H _ I hq) (fun fl s' hs => ?_) fun e s' hs => hs)⟩
  cases fl with
  | ret u =>
    obtain ⟨v, σ', H', J, rv, q⟩ := hs
    exact ⟨v, H', J.os, J.bare, J.base, J.hok, rv, q⟩
  | next =>
    obtain ⟨σ', H', J, q⟩ := hs
    exact ⟨V.non, H', J.os, J.bare, J.base, J.hok, rfl, q⟩
  | brk => exact hs.elim (fun _ z => z.elim fun _ y => y.2.elim)
  | cont => exact hs.elim (fun _ z => z.elim fun _ y => y.2.elim)
end
section
variable {X : Cx} {k : Nat} {f : Addr} {fd : FuncData} {ps : List Str} {sp : Sp} {x : Str} {p pos : Pos} {e : Expr} {es : List Expr} {t : TA}
theorem pe_callG (F : FnG X.prog X.w X.K X.mg X.base k f fd ps sp) (hr : Room k X.A) (hgd : X.A.guards = some []) (hg : Gl X x) (hm : X.mg x = some (.ref f)) (hk : PySem.W.keepIn X.K (.ref f) = true) (hb : Binds X.K fd ps [])
    (ha : PA X (e :: es) t) (hdb : (x == ("__debug__" : Str)) = false := by decide) (he : starEach (e :: es) X.env = (false, eval e X.env) :: starEach es X.env := by rfl) (hpl : (backTo pos (starEach es X.env)).any (·.1) = false := by rfl) :
    PE X (.Call (.Name x p) (e :: es) [] pos) (tCall sp [] E0 t) := by
  constructor
  intro pins s σ H Q I h
  refine wpAny_Call_Name_kw (ld_glob I hg hm ?_ hdb)
  refine PySem.W.callWith_K (h₀ := X.base) I.ok.mod.kin hk (thn (ha.run pos pins s σ H _ I h) ?_) he hpl
  rintro us s1 ⟨vs, H1, I1, r, q⟩
  have q0 : sp vs H1 Q E0 := by
    have z : sp (vs ++ []) H1 Q E0 := q
    rw [List.append_nil] at z
    exact z
  have hl : (us ++ []).length = ps.length := by rw [List.append_nil, ← r.length]; exact F.len _ _ _ _ q0
  have hbt := hb s1 us I1.kIn hl
  rw [List.append_nil] at hbt
  refine ⟨I1.kIn, wpAny_call (codeAny_mono (F.run X.A X.stack s1 H1 ⟨us, []⟩ us vs Q hr hgd I1.env0 hbt r q0) fun rr s' hq => ?_)⟩
  cases rr with
  | error er => exact hq.elim
  | ok fl =>
    cases fl with
    | ret u => exact I1.after hq
    | next => exact hq.elim
    | brk => exact hq.elim
    | cont => exact hq.elim
end
end Kg

set_option maxHeartbeats 4000000
/-! Rule: sum(t), t a tuple of ints. -/
namespace Kg
open PySem PySem.Spec PyProof.Rows L2
theorem sum_tupI {prog : Program} {w : World} {A : Around} {E : Value → Shared → Prop} {s : Shared} {l : Addr} {xs : Array (Int × Tok)} {Q : Value → Shared → Prop} (hh : A.handled = none) (hl : s.heap.IsTuple l (intItems xs))
    (h : ∀ h' tk t', (∀ b o, s.heap.get? b = some o → h'.get? b = some o) → Q (.int (preSum (numAt xs) xs.size) t') { s with heap := h', toks := tk }) :
    wpAny (model prog w) A (call (.builtin "sum") [.ref l]) Q E s := by
  have hlt : l < s.heap.objs.size := let ⟨_, e, _⟩ := hl; Heap.lt_size e
  refine call_sum_walkG (wpAny_pyIter_tuple hl ?_)
  have W := Walks.tuple (prog := prog) (w := w) (A := A.in1) hh s.heap.objs.size l (Nat.ne_of_lt hlt) (intItems xs)
  refine ⟨_, _, _, _, _, _, numAt xs, rfl, W, ⟨⟨_, Heap.get?_push_size _ rfl, rfl, rfl⟩, hl.push _⟩, fun b hb => ?_, fun _ _ => intItems_at, fun h' tk t' hk => ?_⟩
  · show b < (s.heap.push _).objs.size
    rw [Heap.size_push]
    rcases List.mem_cons.mp hb with rfl | hb
    · exact Nat.lt_succ_self _
    · rw [List.mem_singleton.mp hb]; exact Nat.lt_succ_of_lt hlt
  · have q := h h' tk t' fun b o e => hk b o (by
      have := Heap.lt_size e
      simp only [List.mem_singleton]
      exact Nat.ne_of_lt this) (Heap.get?_push_of_some _ e)
    simpa [intItems] using q
def rSumT (K : PySem.W.Frag) : List V → Hp → VK → Prop := fun vs H Q => ∃ (a : Addr) (ns : List Int), vs = [V.ref a] ∧ SqT K H a (ns.map V.int) ∧ Q (.int ns.sum) H
theorem crSumT {X : Cx} {K : PySem.W.Frag} (hk : X.K = K) (hc : X.calm = true) : CallR X (.builtin "sum") (rSumT K) := by
  subst hk
  rintro pins s σ H vs us Q I r ⟨a, ns, rfl, hs, q⟩
  obtain ⟨its, rv, hl, _⟩ := I.tuple hs
  rw [Vals.ref1 r]
  have hi := rv.ints
  obtain ⟨xs, e⟩ := hi.allInts.items
  have hn : numsOf (intItems xs).toList = ns := by rw [← e]; exact hi.numsOf
  rw [nums_intItems] at hn
  have hl2 : s.heap.IsTuple a (intItems xs) := by rw [← e]; exact hl
  refine sum_tupI (I.ok.hd hc) hl2 fun h' tk t' kp => ⟨.int ns.sum, H, I.kept kp, ⟨t', ?_⟩, q⟩
  rw [preSum_eq, List.take_of_length_le (by simp), hn]
end Kg

set_option maxHeartbeats 4000000
/-! The walk, its tools: calls of the text's own defs, what stands in the heap. -/
namespace Kg
open PySem PySem.Spec PyProof.Rows L2 Mi
section
variable {P : Program} {w : World} {K : PySem.W.Frag} {mg : Str → Option Value} {base : Heap}
/-- a def of the text, ready to be called by its name -/
structure Cb (P : Program) (w : World) (K : PySem.W.Frag) (mg : Str → Option Value) (base : Heap) (x : Str) (k : Nat) (ps : List Str) (sp : Sp) : Prop where
  ex : ∃ f fd, FnOk P w K mg base CX0 k f fd ps sp ∧ mg x = some (.ref f) ∧ PySem.W.keepIn K (.ref f) = true ∧ Binds K fd ps []
/-- a method -/
structure Cm (P : Program) (w : World) (K : PySem.W.Frag) (mg : Str → Option Value) (base : Heap) (C : Addr) (m : Str) (k : Nat) (ps : List Str) (sp : Sp) : Prop where
  cls : Cls K C
  ex : ∃ f fd, FnOk P w K mg base CX0 k f fd ps sp ∧ Meth K C m f ∧ Binds K fd ps []
/-- a class -/
structure Ck (P : Program) (w : World) (K : PySem.W.Frag) (mg : Str → Option Value) (base : Heap) (x : Str) (C : Addr) (k : Nat) (ps : List Str) (sp : Sp) : Prop where
  glo : mg x = some (.ref C)
  ex : ∃ f fd, FnOk P w K mg base CX0 k f fd ps sp ∧ Mk K C f ∧ Binds K fd ps []
/-- a property -/
structure Cp (P : Program) (w : World) (K : PySem.W.Frag) (mg : Str → Option Value) (base : Heap) (C : Addr) (m : Str) (k : Nat) (sp : Sp) : Prop where
  cls : Cls K C
  ex : ∃ p f fd, FnOk P w K mg base CX0 k f fd ["self"] sp ∧ PropOf K C m p f ∧ Binds K fd ["self"] []
abbrev BindA (d : He.DefD) (ps : List Str) : Prop := ∀ (kV doc pm : Value) (an : Option Addr) (cdv ct : Value) (us : List Value), us.length = ps.length → bindArgs (PySem.W.fnOf d.name d.qual d.params d.body d.scope .none kV doc pm an cdv ct) ⟨us, []⟩ = pure (ps.zip us)
abbrev Body (P : Program) (w : World) (K : PySem.W.Frag) (mg : Str → Option Value) (base : Heap) (d : He.DefD) (N : List Str) (f : Addr) (k : Nat) (sp : Sp) : Prop :=
  ∀ (cdv : Value) (A : Around) (outer : List Env) (s : Shared) (H : Hp) (vs : List V) (Q : VK) (E : XK), Room k (A.deeper (envOfC d.qual d.scope s.heap.objs.size f cdv)) → sp vs H Q E →
      ∃ t, PSs (cxOf CX0 P w K mg base N d.qual d.scope f cdv A outer s H E).nox d.body t ∧ t { nx := fun _ H' => Q .non H', rt := Q } (start N vs) H
theorem fok {d : He.DefD} {f : Addr} {fd : FuncData} {N ps : List Str} {k : Nat} {sp : Sp} (F : FunD K d.name d.qual d.params d.body d.scope [] [] f fd) (S : FnScope N ps d.scope) (len : ∀ vs H Q E, sp vs H Q E → vs.length = ps.length)
    (h : Body P w K mg base d N f k sp) : FnOk P w K mg base CX0 (k + 1) f fd ps sp :=
  F.ok S len fun cdv A outer s H vs Q E hr hs => by
    obtain ⟨t, a, b⟩ := h cdv A outer s H vs Q E hr hs
    exact ⟨t, a.nox, b⟩
theorem cb_of (T : Tx K mg) (d : He.DefD) (hd : d ∈ fn) {x : Str} (hat : d.at_ = (x, none)) (hg : He.Fa.glo x ∈ fa) {N ps : List Str} (S : FnScope N ps d.scope) (bA : BindA d ps) {k : Nat} {sp : Sp} (len : ∀ vs H Q E, sp vs H Q E → vs.length = ps.length)
    (h : ∀ f, Body P w K mg base d N f k sp) : Cb P w K mg base x (k + 1) ps sp := by
  have F := T.F d hd
  have e : He.fAd K d.at_ = He.ga K x := by rw [hat]; rfl
  exact ⟨_, _, fok F S len (h _), by rw [e]; exact T.glo x hg, F.kp, F.bindsN bA⟩
theorem cm_of (T : Tx K mg) (d : He.DefD) (hd : d ∈ fn) {c m : Str} (hat : d.at_ = (c, some m)) (hm : He.Fa.meth c m ∈ fa) (hc : He.Fa.cls c ∈ fa) {N ps : List Str} (S : FnScope N ps d.scope) (bA : BindA d ps) {k : Nat} {sp : Sp} (len : ∀ vs H Q E, sp vs H Q E → vs.length = ps.length)
    (h : ∀ f, Body P w K mg base d N f k sp) : Cm P w K mg base (He.ga K c) m (k + 1) ps sp := by
  have F := T.F d hd
  have e : He.fAd K d.at_ = He.ma K (He.ga K c) m := by rw [hat]; rfl
  exact ⟨T.cls c hc, _, _, fok F S len (h _), by rw [e]; exact T.meth c m hm, F.bindsN bA⟩
theorem ck_of (T : Tx K mg) (d : He.DefD) (hd : d ∈ fn) {c : Str} (hat : d.at_ = (c, some ("__init__" : Str))) (hm : He.Fa.mkr c ∈ fa) (hg : He.Fa.glo c ∈ fa) {N ps : List Str} (S : FnScope N ps d.scope) (bA : BindA d ps) {k : Nat} {sp : Sp} (len : ∀ vs H Q E, sp vs H Q E → vs.length = ps.length)
    (h : ∀ f, Body P w K mg base d N f k sp) : Ck P w K mg base c (He.ga K c) (k + 1) ps sp := by
  have F := T.F d hd
  have e : He.fAd K d.at_ = He.ma K (He.ga K c) "__init__" := by rw [hat]; rfl
  exact ⟨T.glo c hg, _, _, fok F S len (h _), by rw [e]; exact T.mkr c hm, F.bindsN bA⟩
theorem cp_of (T : Tx K mg) (d : He.DefD) (hd : d ∈ pr) {c m : Str} (hat : d.at_ = (c, some m)) (hc : He.Fa.cls c ∈ fa) {N : List Str} (S : FnScope N ["self"] d.scope) (bA : BindA d ["self"]) {k : Nat} {sp : Sp} (len : ∀ vs H Q E, sp vs H Q E → vs.length = 1)
    (h : ∀ f, Body P w K mg base d N f k sp) : Cp P w K mg base (He.ga K c) m (k + 1) sp := by
  obtain ⟨F, p⟩ := T.P d hd
  rw [hat] at F p
  exact ⟨T.cls c hc, _, _, _, fok F S len (h _), p, F.bindsN bA⟩
end
section
variable {X : Cx} {x m : Str} {C : Addr} {k j : Nat} {ps : List Str} {sp : Sp} {p pos apos : Pos} {e o : Expr} {es : List Expr} {t : TA} {ta : TE}
theorem pe_cb (c : Cb X.prog X.w X.K X.mg X.base x k ps sp) (hr : Room k X.A) (hg : Gl X x) (ha : PA X (e :: es) t) (hdb : (x == ("__debug__" : Str)) = false := by decide)
    (he : starEach (e :: es) X.env = (false, eval e X.env) :: starEach es X.env := by rfl) (hpl : (backTo pos (starEach es X.env)).any (·.1) = false := by rfl) : PE X (.Call (.Name x p) (e :: es) [] pos) (tCall sp [] E0 t) := by
  obtain ⟨f, fd, F, g, kp, b⟩ := c.ex
  exact pe_call F hr hg g kp b .nil pass0 ha hdb he hpl
theorem pe_mk (c : Ck X.prog X.w X.K X.mg X.base x C k ps sp) (hr : Room (k + 1) X.A) (hg : Gl X x) (ha : PA X (e :: es) t) (hdb : (x == ("__debug__" : Str)) = false := by decide)
    (he : starEach (e :: es) X.env = (false, eval e X.env) :: starEach es X.env := by rfl) (hpl : (backTo pos (starEach es X.env)).any (·.1) = false := by rfl) : PE X (.Call (.Name x p) (e :: es) [] pos) (tMake C sp [] E0 t) := by
  obtain ⟨f, fd, F, M, b⟩ := c.ex
  exact pe_make M F hr hg c.glo b .nil pass0 ha hdb he hpl
theorem pe_cm {pl : Sem Bool} (c : Cm X.prog X.w X.K X.mg X.base C m k ps sp) (hr : Room k X.A) (ho : PE X o ta) (ha : PA X (e :: es) t)
    (hst : starEach (e :: es) X.env = (false, eval e X.env) :: starEach es X.env := by rfl) (hpl : (backTo pos (starEach es X.env)).any (·.1) = false := by rfl)
    (ht : eval (.Call (.Attribute o m apos) (e :: es) [] pos) X.env = (do
      let ov ← eval o X.env
      standAt apos.atName
      let (f, first) ← holding [ov] (getMethod ov m pl)
      callWith pos f first (backTo pos (starEach (e :: es) X.env)) (backToKw pos (keywordEach [] X.env))) := by rfl) : PE X (.Call (.Attribute o m apos) (e :: es) [] pos) (tMeth C m sp [] E0 ta t) := by
  obtain ⟨f, fd, F, M, b⟩ := c.ex
  exact pe_meth ho c.cls M F hr b .nil pass0 ha hst hpl ht
theorem pe_cm0 {pl : Sem Bool} (c : Cm X.prog X.w X.K X.mg X.base C m k ps sp) (hr : Room k X.A) (ho : PE X o ta)
    (ht : eval (.Call (.Attribute o m apos) [] [] pos) X.env = (do
      let ov ← eval o X.env
      standAt apos.atName
      let (f, first) ← holding [ov] (getMethod ov m pl)
      callWith pos f first (backTo pos (starEach [] X.env)) (backToKw pos (keywordEach [] X.env))) := by rfl) : PE X (.Call (.Attribute o m apos) [] [] pos) (tMeth C m sp [] E0 ta tNil) := by
  obtain ⟨f, fd, F, M, b⟩ := c.ex
  exact pe_meth0 ho c.cls M F hr b .nil pass0 ht
theorem pe_cp (c : Cp X.prog X.w X.K X.mg X.base C m k sp) (hr : Room (k + 1) X.A) (ho : PE X e ta) (hab : attributeBase e m X.env (eval e X.env) = eval e X.env) : PE X (.Attribute e m pos) (tProp C sp [] E0 ta) := by
  obtain ⟨q, f, fd, F, M, b⟩ := c.ex
  exact pe_prop ho c.cls M F hr b .nil pass0 hab
end
/-! ### heaps -/
/-- a tuple stays where all tuples do -/
theorem sqT_same {K : PySem.W.Frag} {H H' : Hp} {a : Addr} {xs : List V} (e : Same H H') (h : SqT K H a xs) : SqT K H' a xs := by
  rcases h with (h | ⟨o, h⟩) | h
  · exact .inl (.inl (e _ _ h))
  · exact .inl (.inr ⟨o, e _ _ h⟩)
  · exact .inr h
theorem same_new {H : Hp} {p : Addr} {o : HO} (h : H p = none) : Same H (upd H p o) := fun b u e => by
  rw [upd_ne (ne_of_none e h)]; exact e
theorem same_newt {H H' : Hp} {p : Addr} {o : HO} (s : Same H H') (h : H' p = none) : Same H (upd H' p o) := s.trans (same_new h)
/-- all but what stands at a is as it was -/
def Kp (a : Addr) (H H' : Hp) : Prop := ∀ b o, H b = some o → b ≠ a → H' b = some o
theorem Kp.of {a : Addr} {H H' : Hp} (s : Same H H') : Kp a H H' := fun b o e _ => s b o e
theorem Kp.trans {a : Addr} {H H1 H2 : Hp} (x : Kp a H H1) (y : Kp a H1 H2) : Kp a H H2 := fun b o e n => y b o (x b o e n) n
theorem Kp.upd {a : Addr} {H H' : Hp} {o : HO} (x : Kp a H H') : Kp a H (upd H' a o) := fun b u e n => by rw [upd_ne n]; exact x b u e n
theorem sqT_kp {K : PySem.W.Frag} {H H' : Hp} {v a : Addr} {xs ys : List V} (e : Kp v H H') (hv : H v = some (.lst ys)) (h : SqT K H a xs) : SqT K H' a xs := by
  rcases h with (h | ⟨o, h⟩) | h
  · exact .inl (.inl (e _ _ h (ne_of h hv (by intro z; cases z))))
  · exact .inl (.inr ⟨o, e _ _ h (ne_of h hv (by intro z; cases z))⟩)
  · exact .inr h
/-- a fraction at a -/
def FrAt (K : PySem.W.Frag) (H : Hp) (a : Addr) (q : Rat) : Prop := SqT K H a [.int q.num, .int (q.den : Nat)]
theorem FrAt.same {K : PySem.W.Frag} {H H' : Hp} {a : Addr} {q : Rat} (e : Same H H') (h : FrAt K H a q) : FrAt K H' a q := sqT_same e h
theorem FrAt.new {K : PySem.W.Frag} {H : Hp} {p : Addr} {q : Rat} : FrAt K (upd H p (.tup [.int q.num, .int (q.den : Nat)])) p q := .inl (.inl upd_same)
end Kg

set_option maxHeartbeats 4000000
/-! The defs' names by place, how their arguments bind. -/
namespace Kg
open PySem PySem.Spec PyProof.Rows L2

abbrev N_is_integer : List Str := ["value"]
theorem sc_is_integer : FnScope N_is_integer ["value"] (defScope s_is_integer) := ⟨rfl, rfl, rfl, by decide +kernel, rfl, by decide +kernel, by decide +kernel⟩
theorem ba_is_integer : BindA d_is_integer ["value"] := fun _ _ _ _ _ _ us hl => match us, hl with | [_], _ => rfl
abbrev N_is_between : List Str := ["value", "low", "high"]
theorem sc_is_between : FnScope N_is_between ["value", "low", "high"] (defScope s_is_between) := ⟨rfl, rfl, rfl, by decide +kernel, rfl, by decide +kernel, by decide +kernel⟩
theorem ba_is_between : BindA d_is_between ["value", "low", "high"] := fun _ _ _ _ _ _ us hl => match us, hl with | [_, _, _], _ => rfl
abbrev N_common_divisor : List Str := ["one", "other"]
theorem sc_common_divisor : FnScope N_common_divisor ["one", "other"] (defScope s_common_divisor) := ⟨rfl, rfl, rfl, by decide +kernel, rfl, by decide +kernel, by decide +kernel⟩
theorem ba_common_divisor : BindA d_common_divisor ["one", "other"] := fun _ _ _ _ _ _ us hl => match us, hl with | [_, _], _ => rfl
abbrev N_fraction : List Str := ["top", "bottom", "common"]
theorem sc_fraction : FnScope N_fraction ["top", "bottom"] (defScope s_fraction) := ⟨rfl, rfl, rfl, by decide +kernel, rfl, by decide +kernel, by decide +kernel⟩
theorem ba_fraction : BindA d_fraction ["top", "bottom"] := fun _ _ _ _ _ _ us hl => match us, hl with | [_, _], _ => rfl
abbrev N_minus : List Str := ["one", "other"]
theorem sc_minus : FnScope N_minus ["one", "other"] (defScope s_minus) := ⟨rfl, rfl, rfl, by decide +kernel, rfl, by decide +kernel, by decide +kernel⟩
theorem ba_minus : BindA d_minus ["one", "other"] := fun _ _ _ _ _ _ us hl => match us, hl with | [_, _], _ => rfl
abbrev N_times : List Str := ["one", "other"]
theorem sc_times : FnScope N_times ["one", "other"] (defScope s_times) := ⟨rfl, rfl, rfl, by decide +kernel, rfl, by decide +kernel, by decide +kernel⟩
theorem ba_times : BindA d_times ["one", "other"] := fun _ _ _ _ _ _ us hl => match us, hl with | [_, _], _ => rfl
abbrev N_over : List Str := ["one", "other"]
theorem sc_over : FnScope N_over ["one", "other"] (defScope s_over) := ⟨rfl, rfl, rfl, by decide +kernel, rfl, by decide +kernel, by decide +kernel⟩
theorem ba_over : BindA d_over ["one", "other"] := fun _ _ _ _ _ _ us hl => match us, hl with | [_, _], _ => rfl
abbrev N_is_less : List Str := ["one", "other"]
theorem sc_is_less : FnScope N_is_less ["one", "other"] (defScope s_is_less) := ⟨rfl, rfl, rfl, by decide +kernel, rfl, by decide +kernel, by decide +kernel⟩
theorem ba_is_less : BindA d_is_less ["one", "other"] := fun _ _ _ _ _ _ us hl => match us, hl with | [_, _], _ => rfl
abbrev N_is_ascending : List Str := ["values", "index"]
theorem sc_is_ascending : FnScope N_is_ascending ["values"] (defScope s_is_ascending) := ⟨rfl, rfl, rfl, by decide +kernel, rfl, by decide +kernel, by decide +kernel⟩
theorem ba_is_ascending : BindA d_is_ascending ["values"] := fun _ _ _ _ _ _ us hl => match us, hl with | [_], _ => rfl
abbrev N_check_weights : List Str := ["values", "index", "value"]
theorem sc_check_weights : FnScope N_check_weights ["values"] (defScope s_check_weights) := ⟨rfl, rfl, rfl, by decide +kernel, rfl, by decide +kernel, by decide +kernel⟩
theorem ba_check_weights : BindA d_check_weights ["values"] := fun _ _ _ _ _ _ us hl => match us, hl with | [_], _ => rfl
abbrev N_is_lot : List Str := ["value", "many", "case"]
theorem sc_is_lot : FnScope N_is_lot ["value", "many"] (defScope s_is_lot) := ⟨rfl, rfl, rfl, by decide +kernel, rfl, by decide +kernel, by decide +kernel⟩
theorem ba_is_lot : BindA d_is_lot ["value", "many"] := fun _ _ _ _ _ _ us hl => match us, hl with | [_, _], _ => rfl
abbrev N_check_sayings : List Str := ["values", "many", "index", "value", "case"]
theorem sc_check_sayings : FnScope N_check_sayings ["values", "many"] (defScope s_check_sayings) := ⟨rfl, rfl, rfl, by decide +kernel, rfl, by decide +kernel, by decide +kernel⟩
theorem ba_check_sayings : BindA d_check_sayings ["values", "many"] := fun _ _ _ _ _ _ us hl => match us, hl with | [_, _], _ => rfl
abbrev N_Teller_init : List Str := ["self", "weights", "sayings"]
theorem sc_Teller_init : FnScope N_Teller_init ["self", "weights", "sayings"] (defScope s_Teller_init) := ⟨rfl, rfl, rfl, by decide +kernel, rfl, by decide +kernel, by decide +kernel⟩
theorem ba_Teller_init : BindA d_Teller_init ["self", "weights", "sayings"] := fun _ _ _ _ _ _ us hl => match us, hl with | [_, _, _], _ => rfl
abbrev N_Teller_weights : List Str := ["self"]
theorem sc_Teller_weights : FnScope N_Teller_weights ["self"] (defScope s_Teller_weights) := ⟨rfl, rfl, rfl, by decide +kernel, rfl, by decide +kernel, by decide +kernel⟩
theorem ba_Teller_weights : BindA d_Teller_weights ["self"] := fun _ _ _ _ _ _ us hl => match us, hl with | [_], _ => rfl
abbrev N_Teller_sayings : List Str := ["self"]
theorem sc_Teller_sayings : FnScope N_Teller_sayings ["self"] (defScope s_Teller_sayings) := ⟨rfl, rfl, rfl, by decide +kernel, rfl, by decide +kernel, by decide +kernel⟩
theorem ba_Teller_sayings : BindA d_Teller_sayings ["self"] := fun _ _ _ _ _ _ us hl => match us, hl with | [_], _ => rfl
abbrev N_Teller_said_in : List Str := ["self", "case", "index", "cases"]
theorem sc_Teller_said_in : FnScope N_Teller_said_in ["self", "case"] (defScope s_Teller_said_in) := ⟨rfl, rfl, rfl, by decide +kernel, rfl, by decide +kernel, by decide +kernel⟩
theorem ba_Teller_said_in : BindA d_Teller_said_in ["self", "case"] := fun _ _ _ _ _ _ us hl => match us, hl with | [_, _], _ => rfl
abbrev N_Teller_str : List Str := ["self", "weights", "sayings", "words", "cases", "case", "weight"]
theorem sc_Teller_str : FnScope N_Teller_str ["self"] (defScope s_Teller_str) := ⟨rfl, rfl, rfl, by decide +kernel, rfl, by decide +kernel, by decide +kernel⟩
theorem ba_Teller_str : BindA d_Teller_str ["self"] := fun _ _ _ _ _ _ us hl => match us, hl with | [_], _ => rfl
abbrev N_check_teller : List Str := ["value"]
theorem sc_check_teller : FnScope N_check_teller ["value"] (defScope s_check_teller) := ⟨rfl, rfl, rfl, by decide +kernel, rfl, by decide +kernel, by decide +kernel⟩
theorem ba_check_teller : BindA d_check_teller ["value"] := fun _ _ _ _ _ _ us hl => match us, hl with | [_], _ => rfl
abbrev N_Table_init : List Str := ["self", "teller", "index", "cases", "row", "case", "weight", "other"]
theorem sc_Table_init : FnScope N_Table_init ["self", "teller"] (defScope s_Table_init) := ⟨rfl, rfl, rfl, by decide +kernel, rfl, by decide +kernel, by decide +kernel⟩
theorem ba_Table_init : BindA d_Table_init ["self", "teller"] := fun _ _ _ _ _ _ us hl => match us, hl with | [_, _], _ => rfl
abbrev N_Table_column : List Str := ["self", "column"]
theorem sc_Table_column : FnScope N_Table_column ["self"] (defScope s_Table_column) := ⟨rfl, rfl, rfl, by decide +kernel, rfl, by decide +kernel, by decide +kernel⟩
theorem ba_Table_column : BindA d_Table_column ["self"] := fun _ _ _ _ _ _ us hl => match us, hl with | [_], _ => rfl
abbrev N_Table_row : List Str := ["self", "column", "found", "index", "row", "key"]
theorem sc_Table_row : FnScope N_Table_row ["self", "column"] (defScope s_Table_row) := ⟨rfl, rfl, rfl, by decide +kernel, rfl, by decide +kernel, by decide +kernel⟩
theorem ba_Table_row : BindA d_Table_row ["self", "column"] := fun _ _ _ _ _ _ us hl => match us, hl with | [_, _], _ => rfl
abbrev N_Table_turn : List Str := ["self", "index", "column", "lead", "fresh", "other", "value"]
theorem sc_Table_turn : FnScope N_Table_turn ["self", "index", "column"] (defScope s_Table_turn) := ⟨rfl, rfl, rfl, by decide +kernel, rfl, by decide +kernel, by decide +kernel⟩
theorem ba_Table_turn : BindA d_Table_turn ["self", "index", "column"] := fun _ _ _ _ _ _ us hl => match us, hl with | [_, _, _], _ => rfl
abbrev N_Table_solve : List Str := ["self", "column"]
theorem sc_Table_solve : FnScope N_Table_solve ["self"] (defScope s_Table_solve) := ⟨rfl, rfl, rfl, by decide +kernel, rfl, by decide +kernel, by decide +kernel⟩
theorem ba_Table_solve : BindA d_Table_solve ["self"] := fun _ _ _ _ _ _ us hl => match us, hl with | [_], _ => rfl
abbrev N_lessened : List Str := ["row", "lead", "column", "many", "value", "other"]
theorem sc_lessened : FnScope N_lessened ["row", "lead", "column"] (defScope s_lessened) := ⟨rfl, rfl, rfl, by decide +kernel, rfl, by decide +kernel, by decide +kernel⟩
theorem ba_lessened : BindA d_lessened ["row", "lead", "column"] := fun _ _ _ _ _ _ us hl => match us, hl with | [_, _, _], _ => rfl
abbrev N_solved : List Str := ["teller", "table"]
theorem sc_solved : FnScope N_solved ["teller"] (defScope s_solved) := ⟨rfl, rfl, rfl, by decide +kernel, rfl, by decide +kernel, by decide +kernel⟩
theorem ba_solved : BindA d_solved ["teller"] := fun _ _ _ _ _ _ us hl => match us, hl with | [_], _ => rfl
abbrev N_share_of : List Str := ["teller", "value"]
theorem sc_share_of : FnScope N_share_of ["teller", "value"] (defScope s_share_of) := ⟨rfl, rfl, rfl, by decide +kernel, rfl, by decide +kernel, by decide +kernel⟩
theorem ba_share_of : BindA d_share_of ["teller", "value"] := fun _ _ _ _ _ _ us hl => match us, hl with | [_, _], _ => rfl
abbrev N_sure_for : List Str := ["teller"]
theorem sc_sure_for : FnScope N_sure_for ["teller"] (defScope s_sure_for) := ⟨rfl, rfl, rfl, by decide +kernel, rfl, by decide +kernel, by decide +kernel⟩
theorem ba_sure_for : BindA d_sure_for ["teller"] := fun _ _ _ _ _ _ us hl => match us, hl with | [_], _ => rfl
abbrev N_sure_chance : List Str := ["teller"]
theorem sc_sure_chance : FnScope N_sure_chance ["teller"] (defScope s_sure_chance) := ⟨rfl, rfl, rfl, by decide +kernel, rfl, by decide +kernel, by decide +kernel⟩
theorem ba_sure_chance : BindA d_sure_chance ["teller"] := fun _ _ _ _ _ _ us hl => match us, hl with | [_], _ => rfl
abbrev N_pairs_in : List Str := ["teller", "found", "case", "saying"]
theorem sc_pairs_in : FnScope N_pairs_in ["teller"] (defScope s_pairs_in) := ⟨rfl, rfl, rfl, by decide +kernel, rfl, by decide +kernel, by decide +kernel⟩
theorem ba_pairs_in : BindA d_pairs_in ["teller"] := fun _ _ _ _ _ _ us hl => match us, hl with | [_], _ => rfl
abbrev N_forbidden : List Str := ["teller", "pairs", "sayings", "index", "cases", "case"]
theorem sc_forbidden : FnScope N_forbidden ["teller", "pairs"] (defScope s_forbidden) := ⟨rfl, rfl, rfl, by decide +kernel, rfl, by decide +kernel, by decide +kernel⟩
theorem ba_forbidden : BindA d_forbidden ["teller", "pairs"] := fun _ _ _ _ _ _ us hl => match us, hl with | [_, _], _ => rfl
abbrev N_gains : List Str := ["teller", "now", "found", "pair", "fresh"]
theorem sc_gains : FnScope N_gains ["teller"] (defScope s_gains) := ⟨rfl, rfl, rfl, by decide +kernel, rfl, by decide +kernel, by decide +kernel⟩
theorem ba_gains : BindA d_gains ["teller"] := fun _ _ _ _ _ _ us hl => match us, hl with | [_], _ => rfl
abbrev N_law_vat : List Str := ["_law_script", "_law_turn", "_law_own", "_law_mixed", "_law_each"]
theorem sc_law_vat : FnScope N_law_vat ["_law_script", "_law_turn"] (defScope s_law_vat) := ⟨rfl, rfl, rfl, by decide +kernel, rfl, by decide +kernel, by decide +kernel⟩
theorem ba_law_vat : BindA d_law_vat ["_law_script", "_law_turn"] := fun _ _ _ _ _ _ us hl => match us, hl with | [_, _], _ => rfl
abbrev N_law_tap : List Str := ["_law_vat_here", "_law_top", "_law_digit"]
theorem sc_law_tap : FnScope N_law_tap ["_law_vat_here", "_law_top"] (defScope s_law_tap) := ⟨rfl, rfl, rfl, by decide +kernel, rfl, by decide +kernel, by decide +kernel⟩
theorem ba_law_tap : BindA d_law_tap ["_law_vat_here", "_law_top"] := fun _ _ _ _ _ _ us hl => match us, hl with | [_, _], _ => rfl
abbrev N_law_one : List Str := ["_law_vat_here", "_law_things"]
theorem sc_law_one : FnScope N_law_one ["_law_vat_here", "_law_things"] (defScope s_law_one) := ⟨rfl, rfl, rfl, by decide +kernel, rfl, by decide +kernel, by decide +kernel⟩
theorem ba_law_one : BindA d_law_one ["_law_vat_here", "_law_things"] := fun _ _ _ _ _ _ us hl => match us, hl with | [_, _], _ => rfl
abbrev N_law_below : List Str := ["_law_here", "_law_there"]
theorem sc_law_below : FnScope N_law_below ["_law_here", "_law_there"] (defScope s_law_below) := ⟨rfl, rfl, rfl, by decide +kernel, rfl, by decide +kernel, by decide +kernel⟩
theorem ba_law_below : BindA d_law_below ["_law_here", "_law_there"] := fun _ _ _ _ _ _ us hl => match us, hl with | [_, _], _ => rfl
abbrev N_law_weights : List Str := ["_law_vat_here", "_law_many", "_law_top", "_law_k"]
theorem sc_law_weights : FnScope N_law_weights ["_law_vat_here", "_law_many"] (defScope s_law_weights) := ⟨rfl, rfl, rfl, by decide +kernel, rfl, by decide +kernel, by decide +kernel⟩
theorem ba_law_weights : BindA d_law_weights ["_law_vat_here", "_law_many"] := fun _ _ _ _ _ _ us hl => match us, hl with | [_, _], _ => rfl
abbrev N_law_lot : List Str := ["_law_vat_here", "_law_many", "_law_k"]
theorem sc_law_lot : FnScope N_law_lot ["_law_vat_here", "_law_many"] (defScope s_law_lot) := ⟨rfl, rfl, rfl, by decide +kernel, rfl, by decide +kernel, by decide +kernel⟩
theorem ba_law_lot : BindA d_law_lot ["_law_vat_here", "_law_many"] := fun _ _ _ _ _ _ us hl => match us, hl with | [_, _], _ => rfl
abbrev N_law_sayings : List Str := ["_law_vat_here", "_law_many", "_law_most", "_law_found", "_law_turn", "_law_part", "_law_k", "_law_at"]
theorem sc_law_sayings : FnScope N_law_sayings ["_law_vat_here", "_law_many", "_law_most"] (defScope s_law_sayings) := ⟨rfl, rfl, rfl, by decide +kernel, rfl, by decide +kernel, by decide +kernel⟩
theorem ba_law_sayings : BindA d_law_sayings ["_law_vat_here", "_law_many", "_law_most"] := fun _ _ _ _ _ _ us hl => match us, hl with | [_, _, _], _ => rfl
abbrev N_law_said : List Str := ["_law_rows", "_law_k", "_law_at"]
theorem sc_law_said : FnScope N_law_said ["_law_rows", "_law_k"] (defScope s_law_said) := ⟨rfl, rfl, rfl, by decide +kernel, rfl, by decide +kernel, by decide +kernel⟩
theorem ba_law_said : BindA d_law_said ["_law_rows", "_law_k"] := fun _ _ _ _ _ _ us hl => match us, hl with | [_, _], _ => rfl
abbrev N_law_pairs : List Str := ["_law_many", "_law_rows", "_law_found", "_law_k", "_law_at"]
theorem sc_law_pairs : FnScope N_law_pairs ["_law_many", "_law_rows"] (defScope s_law_pairs) := ⟨rfl, rfl, rfl, by decide +kernel, rfl, by decide +kernel, by decide +kernel⟩
theorem ba_law_pairs : BindA d_law_pairs ["_law_many", "_law_rows"] := fun _ _ _ _ _ _ us hl => match us, hl with | [_, _], _ => rfl
abbrev N_law_less : List Str := ["_law_loads", "_law_rows", "_law_pairs_here", "_law_fresh", "_law_at", "_law_k"]
theorem sc_law_less : FnScope N_law_less ["_law_loads", "_law_rows", "_law_pairs_here"] (defScope s_law_less) := ⟨rfl, rfl, rfl, by decide +kernel, rfl, by decide +kernel, by decide +kernel⟩
theorem ba_law_less : BindA d_law_less ["_law_loads", "_law_rows", "_law_pairs_here"] := fun _ _ _ _ _ _ us hl => match us, hl with | [_, _, _], _ => rfl
abbrev N_law_right : List Str := ["_law_vat_here", "_law_turn", "_law_many", "_law_loads", "_law_rows", "_law_mine", "_law_due", "_law_pair", "_law_less_here"]
theorem sc_law_right : FnScope N_law_right ["_law_vat_here"] (defScope s_law_right) := ⟨rfl, rfl, rfl, by decide +kernel, rfl, by decide +kernel, by decide +kernel⟩
theorem ba_law_right : BindA d_law_right ["_law_vat_here"] := fun _ _ _ _ _ _ us hl => match us, hl with | [_], _ => rfl
abbrev N_law : List Str := ["_law_script", "_law_turn"]
theorem sc_law : FnScope N_law ["_law_script"] (defScope s_law) := ⟨rfl, rfl, rfl, by decide +kernel, rfl, by decide +kernel, by decide +kernel⟩
theorem ba_law : BindA d_law ["_law_script"] := fun _ _ _ _ _ _ us hl => match us, hl with | [_], _ => rfl
end Kg

set_option maxHeartbeats 4000000
/-! Rules with the written part named: they serve within a comprehension's block. -/
namespace Kg
open PySem PySem.Spec PyProof.Rows L2
section
variable {X : Cx} {K : PySem.W.Frag}
theorem ixT (h : X.K = K) : IxR X (rIxT K) := by subst h; exact ix_tup
theorem ixL (h : X.K = K) : IxR X (rIxL K) := by subst h; exact ix_list
theorem opIn (h : X.K = K) : OpR X (compareOp .In) (rIn K false) := by subst h; exact op_in_seq
theorem opNotIn (h : X.K = K) : OpR X (compareOp .NotIn) (rIn K true) := by subst h; exact op_notIn_seq
theorem crAny (h : X.K = K) (hc : X.calm = true) : CallR X (.builtin "any") (rAny K) := by subst h; exact cr_any hc
theorem crAll (h : X.K = K) (hc : X.calm = true) : CallR X (.builtin "all") (rAll K) := by subst h; exact cr_all hc
theorem piT {tg l : Expr} {tl : TE} (h : X.K = K) (hl : PE X l tl) : PI X tg l (iTup K tl) := by subst h; exact pi_tup hl
theorem piL {tg l : Expr} {tl : TE} (h : X.K = K) (hl : PE X l tl) : PI X tg l (iList K tl) := by subst h; exact pi_list hl
theorem piE {e : Expr} {ta : TA} {p pos tpos : Pos} {elts : List Expr} {kk : Nat} (h : X.K = K) (hg : Gl X "enumerate") (hm : X.mg "enumerate" = none) (ha : PA X [e] ta) (hs : starEach [e] X.env = [(false, eval e X.env)] := by rfl) :
    PI X (.Tuple elts kk tpos) (.Call (.Name "enumerate" p) [e] [] pos) (iEnumT K ta) := by subst h; exact pi_enumT hg hm ha hs
theorem piEL {e : Expr} {ta : TA} {p pos tpos : Pos} {elts : List Expr} {kk : Nat} (h : X.K = K) (hg : Gl X "enumerate") (hm : X.mg "enumerate" = none) (ha : PA X [e] ta) (hs : starEach [e] X.env = [(false, eval e X.env)] := by rfl) :
    PI X (.Tuple elts kk tpos) (.Call (.Name "enumerate" p) [e] [] pos) (iEnum K ta) := by subst h; exact pi_enum hg hm ha hs
def rLenQ (K : PySem.W.Frag) : List V → Hp → VK → Prop := fun xs H Q => ∃ p ys, xs = [.ref p] ∧ (SqL K H p ys ∨ SqT K H p ys) ∧ Q (.int (ys.length : Nat)) H
theorem callLen (h : X.K = K) : CallR X (.builtin "len") (rLenQ K) := by subst h; exact call_len_seq
def rTupQ (K : PySem.W.Frag) : List V → Hp → VK → Prop := fun xs H Q => ∃ p ys, xs = [.ref p] ∧ ((SqL K H p ys ∧ ∀ l, H l = none → Q (.ref l) (upd H l (.tup ys))) ∨ (SqT K H p ys ∧ Q (.ref p) H))
theorem callTup (h : X.K = K) : CallR X (.type "tuple") (rTupQ K) := by subst h; exact call_tuple_of
theorem callIsi (h : X.K = K) : CallR X (.builtin "isinstance") (rIsi K) := by subst h; exact call_isi
theorem peF {e : Expr} {ta : TE} {f : Str} {pos : Pos} (h : X.K = K) (he : PE X e ta) (hb : attributeBase e f X.env (eval e X.env) = eval e X.env) : PE X (.Attribute e f pos) (tFld K ta f) := by subst h; exact pe_fld he hb
theorem opEqD (h : X.K = K) (hu : X.A.units + 64 < cLine) : OpR X (compareOp .Eq) (rEqD K) := by subst h; exact op_eqD hu
theorem opNeD (h : X.K = K) (hu : X.A.units + 64 < cLine) : OpR X (compareOp .NotEq) (rNeD K) := by subst h; exact op_neD hu
theorem slT (h : X.K = K) : SlR X (rSlT K) := by subst h; exact sl_tup
theorem slL (h : X.K = K) : SlR X (rSlL K) := by subst h; exact sl_list
theorem opCatT (h : X.K = K) : OpR X (binaryOp .Add) (rCatT K) := by subst h; exact op_catT
theorem crSortT (h : X.K = K) : CallR X (.builtin "sorted") (rSortT K) := by subst h; exact cr_sortT
theorem pgT {es : List Expr} {k : Nat} {t : TGs} {n : Nat} {pos : Pos} (h : X.K = K) (hc : X.calm = true) (hp : PGs X es t) (hn : (assignEach es X.env).length = n := by rfl) (hst : (assignEach es X.env).findIdx? (·.1) = none := by rfl) :
    PG X (.Tuple es k pos) (gTup K n t) := by subst h; exact pg_tup hc hp hn hst
def rJoinQ (K : PySem.W.Frag) : V → List V → Hp → VK → Prop := fun x xs H Q => ∃ a p, ∃ ys : List Str, x = .str a ∧ xs = [.ref p] ∧ (SqL K H p (ys.map V.str) ∨ SqT K H p (ys.map V.str)) ∧
  (ys.map (·.length)).sum + ys.length * a.length ≤ 16777216 ∧ Q (.str (Txt.join a ys)) H
theorem peJoin {e o : Expr} {te to : TE} {apos pos : Pos} (h : X.K = K) (ho : PE X o to) (he : PE X e te) (hs : starEach [e] X.env = [(false, eval e X.env)] := by rfl) (hbase : attributeBase o "join" X.env (eval o X.env) = eval o X.env := by rfl) (hline : (apos.endLine == pos.line) = true := by rfl) :
    PE X (.Call (.Attribute o "join" apos) [e] [] pos) (tM1 (rJoinQ K) to te) := by subst h; exact pe_join ho he hs hbase hline
/-- x in t, x not in t: data of any depth, t a list or a tuple -/
def rInDD (K : PySem.W.Frag) (neg : Bool) : R2 := fun x y H Q => ∃ d ds, Dp K H x d ∧ (Dp K H y (.list ds) ∨ Dp K H y (.tuple ds)) ∧ d.canLay0 = true ∧ PyData.canLayAll0 ds = true ∧ d.depth ≤ 8 ∧ Q (.bl (neg ^^ ds.any fun z => PyData.eqv z d)) H
theorem opInDD (h : X.K = K) (hu : X.A.units + 64 < cLine) : OpR X (compareOp .In) (rInDD K false) := by
  subst h
  rintro pins s σ H x y v u Q I rx ry ⟨d, ds, hd, he, l1, l2, dp, q⟩
  obtain ⟨as, r1⟩ := Dp.reads I d x v hd rx
  have hu2 : X.A.units + 1 + min (PyData.depthAll ds) d.depth < cLine := by omega
  rw [Bool.false_xor] at q
  rcases he with he | he
  · obtain ⟨bs, r2⟩ := Dp.reads I (.list ds) y u he ry
    exact SeqAt.in_list_reads r2 r1 l2 l1 hu2 ⟨.bl _, H, I, rfl, q⟩
  · obtain ⟨bs, r2⟩ := Dp.reads I (.tuple ds) y u he ry
    exact SeqAt.in_tuple_reads r2 r1 l2 l1 hu2 ⟨.bl _, H, I, rfl, q⟩
theorem opNotInDD (h : X.K = K) (hu : X.A.units + 64 < cLine) : OpR X (compareOp .NotIn) (rInDD K true) := by
  subst h
  rintro pins s σ H x y v u Q I rx ry ⟨d, ds, hd, he, l1, l2, dp, q⟩
  obtain ⟨as, r1⟩ := Dp.reads I d x v hd rx
  have hu2 : X.A.units + 1 + min (PyData.depthAll ds) d.depth < cLine := by omega
  rw [Bool.true_xor] at q
  rcases he with he | he
  · obtain ⟨bs, r2⟩ := Dp.reads I (.list ds) y u he ry
    exact SeqAt.notIn_list_reads r2 r1 l2 l1 hu2 ⟨.bl _, H, I, rfl, q⟩
  · obtain ⟨bs, r2⟩ := Dp.reads I (.tuple ds) y u he ry
    exact SeqAt.notIn_tuple_reads r2 r1 l2 l1 hu2 ⟨.bl _, H, I, rfl, q⟩
end
end Kg

set_option maxHeartbeats 4000000
/-! The walk: fractions. -/
namespace Kg
open PySem PySem.Spec PyProof.Rows L2 Mi
/-! ### plain -/
theorem divInt_parts {a b : Int} (hb : 0 < b) : (Rat.divInt a b).num = a / ((Nat.gcd a.natAbs b.natAbs : Nat) : Int) ∧ (((Rat.divInt a b).den : Nat) : Int) = b / ((Nat.gcd a.natAbs b.natAbs : Nat) : Int) := by
  have e : Int.gcd b a = Nat.gcd a.natAbs b.natAbs := by unfold Int.gcd; rw [Nat.gcd_comm]
  constructor
  · rw [Rat.num_divInt, Int.sign_eq_one_of_pos hb, Int.one_mul, e]
  · rw [Rat.den_divInt, if_neg (by omega), e, Int.natCast_ediv]
    congr 1
    omega
theorem sz_nat {n : Nat} {q : Rat} (h : Sz n q) : ((q.den : Nat) : Int).natAbs < 2 ^ n := by simpa using h.den
theorem mul_ok {i j : Int} {a b : Nat} (ha : i.natAbs < 2 ^ a) (hb : j.natAbs < 2 ^ b) (h : a + b < 900000) : CMulW i j := by
  have ha' : i.natAbs < 2 ^ (a + 1) := Nat.lt_of_lt_of_le ha (Nat.pow_le_pow_right (by decide) (by omega))
  have hb' : j.natAbs < 2 ^ (b + 1) := Nat.lt_of_lt_of_le hb (Nat.pow_le_pow_right (by decide) (by omega))
  exact wide_mul ha' hb' (by omega) (by omega) (by omega)
theorem natAbs_lt_mul {i j : Int} {a b : Nat} (ha : i.natAbs < 2 ^ a) (hb : j.natAbs < 2 ^ b) : (i * j).natAbs < 2 ^ (a + b) := wide_lt ha hb
theorem natAbs_lt_sub {i j : Int} {a : Nat} (ha : i.natAbs < 2 ^ a) (hb : j.natAbs < 2 ^ a) : (i - j).natAbs < 2 ^ (a + 1) := by
  have := Int.natAbs_sub_le i j
  rw [Nat.pow_succ]
  omega
theorem den_pos (q : Rat) : (0 : Int) < ((q.den : Nat) : Int) := by have := q.den_pos; omega
theorem sub_div (p q : Rat) : Rat.divInt (p.num * (q.den : Nat) - q.num * (p.den : Nat)) ((p.den : Nat) * (q.den : Nat)) = p - q := by
  rw [Rat.sub_def', ← Int.natCast_mul, Rat.divInt_ofNat]
theorem mul_div (p q : Rat) : Rat.divInt (p.num * q.num) ((p.den : Nat) * (q.den : Nat)) = p * q := by
  rw [Rat.mul_def', ← Int.natCast_mul, Rat.divInt_ofNat]
theorem over_div (p q : Rat) (h : 0 < q) : Rat.divInt (p.num * (q.den : Nat)) ((p.den : Nat) * q.num) = p / q := by
  have q0 : q.num ≠ 0 := fun e => by rw [Rat.num_eq_zero] at e; grind
  rw [Rat.div_def, Rat.inv_def, ← Rat.divInt_mul_divInt]
  · rw [Rat.num_divInt_den]
theorem sz_mul {a b : Nat} {p q : Rat} (hp : Sz a p) (hq : Sz b q) : Sz (a + b) (p * q) := by
  have h0 : (0 : Int) < (p.den : Nat) * (q.den : Nat) := Int.mul_pos (den_pos p) (den_pos q)
  rw [← mul_div]
  have e := divInt_parts (a := p.num * q.num) h0
  constructor
  · rw [e.1]
    exact Nat.lt_of_le_of_lt (Int.natAbs_ediv_le_natAbs _ _) (natAbs_lt_mul hp.num hq.num)
  · have : ((Rat.divInt (p.num * q.num) ((p.den : Nat) * (q.den : Nat))).den : Int).natAbs < 2 ^ (a + b) := by
      rw [e.2]
      exact Nat.lt_of_le_of_lt (Int.natAbs_ediv_le_natAbs _ _) (natAbs_lt_mul (sz_nat hp) (sz_nat hq))
    simpa using this
theorem abs_nat (a : Int) : (if a < 0 then -a else a) = ((a.natAbs : Nat) : Int) := by split <;> omega
/-! ### promises -/
def spGcd : Sp := fun vs H Q _ => ∃ a b : Nat, vs = [.int a, .int b] ∧ Q (.int (Nat.gcd a b : Nat)) H
def spFrac (K : PySem.W.Frag) : Sp := fun vs H Q _ => ∃ (a b : Int) (n : Nat), vs = [.int a, .int b] ∧ 0 < b ∧ a.natAbs < 2 ^ n ∧ b.natAbs < 2 ^ n ∧ n ≤ 4000 ∧ ∀ p, H p = none → Q (.ref p) (upd H p (.tup [.int (Rat.divInt a b).num, .int ((Rat.divInt a b).den : Nat)]))
/-- a new fraction f p q -/
def spOpF (K : PySem.W.Frag) (C : Rat → Rat → Prop) (f : Rat → Rat → Rat) : Sp := fun vs H Q _ => ∃ (a b : Addr) (p q : Rat), vs = [.ref a, .ref b] ∧ FrAt K H a p ∧ FrAt K H b q ∧ Sz 1000 p ∧ Sz 1000 q ∧ C p q ∧
  ∀ c H', H c = none → Same H H' → FrAt K H' c (f p q) → Q (.ref c) H'
def spLess (K : PySem.W.Frag) : Sp := fun vs H Q _ => ∃ (a b : Addr) (p q : Rat), vs = [.ref a, .ref b] ∧ FrAt K H a p ∧ FrAt K H b q ∧ Sz 1000 p ∧ Sz 1000 q ∧ Q (.bl (decide (p < q))) H
section
variable {P : Program} {w : World} {K : PySem.W.Frag} {mg : Str → Option Value} {base : Heap} (T : Tx K mg)
include T
theorem C_common_divisor : Cb P w K mg base "common_divisor" 1 ["one", "other"] spGcd := by
  refine cb_of T d_common_divisor n_common_divisor rfl m_glo_common_divisor sc_common_divisor ba_common_divisor ?_ ?_
  · rintro vs H Q E ⟨a, b, rfl, _⟩; rfl
  · rintro f cdv A outer s H vs Q E hr ⟨a, b, rfl, q⟩
    refine ⟨_, (pss_cons (ps_while PassesOwn.never (pt_cmpR op_ne (pv 1) pe_int (nomark _))
      (pss_one (ps_par (i := 0) (j := 1) (by rfl) sc_common_divisor.nd rfl rfl (by decide) rfl rfl (pa_cons (pv 1) (pa_cons (pe_op op_mod (pv 0) (pv 1)) pa_nil)) (by rfl))))
    (pss_one (ps_ret (pv 0)))), ?_⟩
    refine ⟨fun m σ H' => ∃ x y : Nat, σ = [some (.int x), some (.int y)] ∧ H' = H ∧ m = y ∧ Nat.gcd x y = Nat.gcd a b, ⟨b, a, b, rfl, rfl, rfl, rfl⟩, ?_⟩
    rintro m σ H' ⟨x, y, rfl, eh, rfl, e⟩
    obtain rfl : H = H' := eh.symm
    refine ⟨_, rfl, rfl, _, rfl, ?_⟩
    by_cases hy : m = 0
    · subst hy
      rw [show (!decide (V.int ((0 : Nat) : Int) = V.int 0)) = false by rfl]
      refine iteF ⟨_, rfl, ?_⟩
      rw [Nat.gcd_zero_right] at e
      rw [e]
      exact q
    · rw [show (!decide (V.int (m : Int) = V.int 0)) = true by
        rw [decide_eq_false (fun z => hy (by injection z with z; omega))]; rfl]
      refine iteT ⟨fun σ H' => ∃ x' y' : Nat, σ = [some (.int x'), some (.int y')] ∧ H' = H ∧ y' < m ∧ Nat.gcd x' y' = Nat.gcd a b, ?_, ?_⟩
      · rintro σ' H' ⟨x', y', rfl, rfl, l, e'⟩
        exact ⟨y', l, x', y', rfl, rfl, rfl, e'⟩
      · refine ⟨_, rfl, _, rfl, _, rfl, _, _, rfl, rfl, (by show (0 : Int) < (m : Int); omega), _, _, rfl, m, x % m, ?_, rfl, Nat.mod_lt _ (by omega), ?_⟩
        · show [some (V.int (m : Int)), some (V.int ((x : Int) % (m : Int)))] = _
          rw [Int.natCast_emod]
        · rw [← e, Nat.gcd_comm x m, Nat.gcd_rec m x, Nat.gcd_comm]
theorem C_fraction : Cb P w K mg base "fraction" 2 ["top", "bottom"] (spFrac K) := by
  refine cb_of T d_fraction n_fraction rfl m_glo_fraction sc_fraction ba_fraction ?_ ?_
  · rintro vs H Q E ⟨a, b, n, rfl, _⟩; rfl
  · rintro f cdv A outer s H vs Q E hr ⟨a, b, n, rfl, hb, sa, sb, hn, q⟩
    refine ⟨_, (pss_cons (ps_set (i := 2) sc_fraction.nd rfl (Or.inl rfl) (pe_cb (C_common_divisor T) (hr.mono (by decide)) (by rfl) (pa_cons (pe_callB call_abs (by rfl) (T.free "abs" m_free_abs) bt_abs (pa_cons (pv 0) pa_nil)) (pa_cons (pe_callB call_abs (by rfl) (T.free "abs" m_free_abs) bt_abs (pa_cons (pv 1) pa_nil)) pa_nil))))
    (pss_cons (ps_set (i := 2) sc_fraction.nd rfl (Or.inl rfl) (pe_ifExp (pt_cmpR op_gt (pv 1) pe_int (nomark _)) (pv 2) (pe_un un_neg (pv 2))))
    (pss_one (ps_ret (pe_tup (pa_cons (pe_op op_fdivW (pv 0) (pv 2)) (pa_cons (pe_op op_fdivW (pv 1) (pv 2)) pa_nil))))))), ?_⟩
    refine ⟨_, rfl, _, rfl, _, rfl, _, rfl, a.natAbs, b.natAbs, ?_, ?_⟩
    · show [V.int (if a < 0 then -a else a), V.int (if b < 0 then -b else b)] = _
      rw [abs_nat, abs_nat]
    · have g0 : (0 : Int) < ((Nat.gcd a.natAbs b.natAbs : Nat) : Int) := by
        have := Nat.gcd_pos_of_pos_right (m := a.natAbs) (n := b.natAbs) (by omega)
        omega
      have gl : (((Nat.gcd a.natAbs b.natAbs : Nat) : Int)).natAbs < 2 ^ (n + 1) := by
        have h1 := Nat.gcd_le_right (m := a.natAbs) (n := b.natAbs) (by omega)
        rw [Nat.pow_succ]
        omega
      have dv : ∀ i : Int, CDivW i ((Nat.gcd a.natAbs b.natAbs : Nat) : Int) := fun i => wide_div g0 gl (by omega) (by omega)
      refine ⟨_, rfl, _, _, rfl, rfl, _, rfl, ?_⟩
      rw [decide_eq_true (show (0 : Int) < b from hb)]
      refine iteT ⟨_, rfl, _, rfl, _, rfl, _, _, rfl, rfl, dv a, _, rfl, _, rfl, _, _, rfl, rfl, dv b, (by show 2 ≤ sizeLine; decide), fun p hp => ?_⟩
      have e := divInt_parts (a := a) hb
      have q' := q p hp
      rw [e.1, e.2] at q'
      exact q'
theorem C_minus : Cb P w K mg base "minus" 3 ["one", "other"] (spOpF K (fun _ _ => True) fun p q => p - q) := by
  refine cb_of T d_minus n_minus rfl m_glo_minus sc_minus ba_minus ?_ ?_
  · rintro vs H Q E ⟨a, b, p, q, rfl, _⟩; rfl
  · rintro f cdv A outer s H vs Q E hr ⟨a, b, p, q, rfl, ha, hb, sp, sq, _, k⟩
    refine ⟨_, (pss_one (ps_ret (pe_cb (C_fraction T) (hr.mono (by decide)) (by rfl) (pa_cons (pe_op op_sub (pe_op op_mulW (pe_ix ix_tup (pv 0) pe_int (fun _ _ => rfl)) (pe_ix ix_tup (pv 1) pe_int (fun _ _ => rfl))) (pe_op op_mulW (pe_ix ix_tup (pv 1) pe_int (fun _ _ => rfl)) (pe_ix ix_tup (pv 0) pe_int (fun _ _ => rfl)))) (pa_cons (pe_op op_mulW (pe_ix ix_tup (pv 0) pe_int (fun _ _ => rfl)) (pe_ix ix_tup (pv 1) pe_int (fun _ _ => rfl))) pa_nil))))), ?_⟩
    refine ⟨_, rfl, a, _, _, _, rfl, rfl, ha, rfl, _, rfl, b, _, _, _, rfl, rfl, hb, rfl, _, _, rfl, rfl, mul_ok sp.num (sz_nat sq) (by decide),
      _, rfl, b, _, _, _, rfl, rfl, hb, rfl, _, rfl, a, _, _, _, rfl, rfl, ha, rfl, _, _, rfl, rfl, mul_ok sq.num (sz_nat sp) (by decide), _, _, rfl, rfl,
      _, rfl, a, _, _, _, rfl, rfl, ha, rfl, _, rfl, b, _, _, _, rfl, rfl, hb, rfl, _, _, rfl, rfl, mul_ok (sz_nat sp) (sz_nat sq) (by decide), ?_⟩
    refine ⟨_, _, 2001, rfl, Int.mul_pos (den_pos p) (den_pos q), natAbs_lt_sub (natAbs_lt_mul sp.num (sz_nat sq)) (natAbs_lt_mul sq.num (sz_nat sp)), Nat.lt_of_lt_of_le (natAbs_lt_mul (sz_nat sp) (sz_nat sq)) (Nat.pow_le_pow_right (by decide) (by decide)), by decide, fun c hc => ?_⟩
    rw [sub_div]
    exact k c _ hc (same_new hc) FrAt.new
theorem C_times : Cb P w K mg base "times" 3 ["one", "other"] (spOpF K (fun _ _ => True) fun p q => p * q) := by
  refine cb_of T d_times n_times rfl m_glo_times sc_times ba_times ?_ ?_
  · rintro vs H Q E ⟨a, b, p, q, rfl, _⟩; rfl
  · rintro f cdv A outer s H vs Q E hr ⟨a, b, p, q, rfl, ha, hb, sp, sq, _, k⟩
    refine ⟨_, (pss_one (ps_ret (pe_cb (C_fraction T) (hr.mono (by decide)) (by rfl) (pa_cons (pe_op op_mulW (pe_ix ix_tup (pv 0) pe_int (fun _ _ => rfl)) (pe_ix ix_tup (pv 1) pe_int (fun _ _ => rfl))) (pa_cons (pe_op op_mulW (pe_ix ix_tup (pv 0) pe_int (fun _ _ => rfl)) (pe_ix ix_tup (pv 1) pe_int (fun _ _ => rfl))) pa_nil))))), ?_⟩
    refine ⟨_, rfl, a, _, _, _, rfl, rfl, ha, rfl, _, rfl, b, _, _, _, rfl, rfl, hb, rfl, _, _, rfl, rfl, mul_ok sp.num sq.num (by decide),
      _, rfl, a, _, _, _, rfl, rfl, ha, rfl, _, rfl, b, _, _, _, rfl, rfl, hb, rfl, _, _, rfl, rfl, mul_ok (sz_nat sp) (sz_nat sq) (by decide), ?_⟩
    refine ⟨_, _, 2000, rfl, Int.mul_pos (den_pos p) (den_pos q), natAbs_lt_mul sp.num sq.num, natAbs_lt_mul (sz_nat sp) (sz_nat sq), by decide, fun c hc => ?_⟩
    rw [mul_div]
    exact k c _ hc (same_new hc) FrAt.new
theorem C_over : Cb P w K mg base "over" 3 ["one", "other"] (spOpF K (fun _ q => 0 < q) fun p q => p / q) := by
  refine cb_of T d_over n_over rfl m_glo_over sc_over ba_over ?_ ?_
  · rintro vs H Q E ⟨a, b, p, q, rfl, _⟩; rfl
  · rintro f cdv A outer s H vs Q E hr ⟨a, b, p, q, rfl, ha, hb, sp, sq, q0, k⟩
    have qn : 0 < q.num := by
      have := (Rat.lt_iff 0 q).mp q0
      simpa using this
    refine ⟨_, (pss_one (ps_ret (pe_cb (C_fraction T) (hr.mono (by decide)) (by rfl) (pa_cons (pe_op op_mulW (pe_ix ix_tup (pv 0) pe_int (fun _ _ => rfl)) (pe_ix ix_tup (pv 1) pe_int (fun _ _ => rfl))) (pa_cons (pe_op op_mulW (pe_ix ix_tup (pv 0) pe_int (fun _ _ => rfl)) (pe_ix ix_tup (pv 1) pe_int (fun _ _ => rfl))) pa_nil))))), ?_⟩
    refine ⟨_, rfl, a, _, _, _, rfl, rfl, ha, rfl, _, rfl, b, _, _, _, rfl, rfl, hb, rfl, _, _, rfl, rfl, mul_ok sp.num (sz_nat sq) (by decide),
      _, rfl, a, _, _, _, rfl, rfl, ha, rfl, _, rfl, b, _, _, _, rfl, rfl, hb, rfl, _, _, rfl, rfl, mul_ok (sz_nat sp) sq.num (by decide), ?_⟩
    refine ⟨_, _, 2000, rfl, Int.mul_pos (den_pos p) qn, natAbs_lt_mul sp.num (sz_nat sq), natAbs_lt_mul (sz_nat sp) sq.num, by decide, fun c hc => ?_⟩
    rw [over_div p q q0]
    exact k c _ hc (same_new hc) FrAt.new
theorem C_is_less : Cb P w K mg base "is_less" 3 ["one", "other"] (spLess K) := by
  refine cb_of T d_is_less n_is_less rfl m_glo_is_less sc_is_less ba_is_less ?_ ?_
  · rintro vs H Q E ⟨a, b, p, q, rfl, _⟩; rfl
  · rintro f cdv A outer s H vs Q E hr ⟨a, b, p, q, rfl, ha, hb, sp, sq, k⟩
    refine ⟨_, (pss_one (ps_ret (pe_cmpR op_lt (pe_op op_mulW (pe_ix ix_tup (pv 0) pe_int (fun _ _ => rfl)) (pe_ix ix_tup (pv 1) pe_int (fun _ _ => rfl))) (pe_op op_mulW (pe_ix ix_tup (pv 1) pe_int (fun _ _ => rfl)) (pe_ix ix_tup (pv 0) pe_int (fun _ _ => rfl))) (nomark _)))), ?_⟩
    refine ⟨_, rfl, a, _, _, _, rfl, rfl, ha, rfl, _, rfl, b, _, _, _, rfl, rfl, hb, rfl, _, _, rfl, rfl, mul_ok sp.num (sz_nat sq) (by decide),
      _, rfl, b, _, _, _, rfl, rfl, hb, rfl, _, rfl, a, _, _, _, rfl, rfl, ha, rfl, _, _, rfl, rfl, mul_ok sq.num (sz_nat sp) (by decide), _, _, rfl, rfl, ?_⟩
    have e : decide (p < q) = decide (p.num * (q.den : Nat) < q.num * (p.den : Nat)) := by
      rw [Bool.eq_iff_iff, decide_eq_true_iff, decide_eq_true_iff]
      exact Rat.lt_iff p q
    rw [e] at k
    exact k
end
end Kg

set_option maxHeartbeats 4000000
/-! The walk: what stands in the heap, tellers made and read. -/
namespace Kg
open PySem PySem.Spec PyProof.Rows L2 Mi
/-! ### tools -/
theorem Same.kp {a : Addr} {H H' : Hp} (s : Same H H') : Kp a H H' := fun b o e _ => s b o e
/-- a comprehension whose block leaves all as it was: R by the turn, the heap, the list so far -/
theorem lc_run {J : It} {n : Nat} {G : Hp → Prop} {Y : Nat → Hp → V → Hp → Prop} (w : Walk J n G Y) {g : TG} {tt : TT} {te : TE} {vs : List Nat} {σ : L2.St} {H1 : Hp} {D : Addr} {Qd : Hp → Prop} (hD : H1 D = none) (R : Nat → Hp → List V → Prop)
    (hG : ∀ H, Same H1 H → G H) (hR : ∀ i H H' acc ys, H D = some (.lst ys) → Kp D H H' → R i H acc → R i H' acc) (h0 : ∀ H, Same H1 H → R 0 H []) (hn : n ≤ sizeLine)
    (hs : ∀ i x H H' acc (k : V → Hp → Prop) (k0 : Hp → Prop), i < n → Same H1 H → H D = some (.lst acc) → acc.length ≤ i → R i H acc → Y i H x H' → (∀ y H4, Same H H4 → R (i + 1) H4 (acc ++ [y]) → k y H4) → (∀ H3, Same H H3 → R (i + 1) H3 acc → k0 H3) →
      g x (wipe σ vs) H' fun σ2 H2 => wipe σ2 vs = wipe σ vs ∧ tt σ2 H2 fun b H3 => if b = true then te σ2 H3 k else k0 H3)
    (hd : ∀ H acc, Same H1 H → H D = some (.lst acc) → acc.length ≤ n → R n H acc → Qd H) :
    ∃ W : Nat → Nat → Hp → Prop, (∃ m, W 0 m (upd H1 D (.lst []))) ∧ ∀ i m H, W i m H →
      (J.stop i H ∧ Qd H) ∨ (J.go i H ∧ ∃ Nx : Hp → Prop, (∀ H', Nx H' → ∃ m', m' < m ∧ W (i + 1) m' H') ∧ ∀ x H', J.yld i H x H' → g x (wipe σ vs) H' fun σ2 H2 => wipe σ2 vs = wipe σ vs ∧ tt σ2 H2 fun b H3 =>
        if b = true then te σ2 H3 fun y H4 => ∃ acc, H4 D = some (.lst acc) ∧ acc.length < sizeLine ∧ Nx (upd H4 D (.lst (acc ++ [y]))) else Nx H3) := by
  have s0 : ∀ {H o}, Same H1 H → Same H1 (upd H D o) := fun {H o} s b u e => by rw [upd_ne (ne_of_none e hD)]; exact s b u e
  refine lc_it w (fun i H => ∃ acc, Same H1 H ∧ H D = some (.lst acc) ∧ acc.length ≤ i ∧ R i H acc) ⟨[], s0 (Same.refl _), upd_same, Nat.le_refl _, h0 _ (s0 (Same.refl _))⟩ (fun i H _ ⟨_, s, _⟩ => hG H s) ?_ ?_
  · rintro i x H H' hi ⟨acc, s, e, hl, r⟩ y
    refine hs i x H H' acc _ _ hi s e hl r y (fun v H4 s4 r4 => ?_) (fun H3 s3 r3 => ?_)
    · have e4 := s4 D _ e
      refine ⟨acc, e4, by omega, acc ++ [v], s0 (s.trans s4), upd_same, by rw [List.length_append]; exact Nat.succ_le_succ hl, hR (i + 1) H4 _ _ acc e4 (fun b u q n => by rw [upd_ne n]; exact q) r4⟩
    · exact ⟨acc, s.trans s3, s3 D _ e, by omega, r3⟩
  · rintro H ⟨acc, s, e, hl, r⟩
    exact hd H acc s e hl r
/-- a tuple's class -/
theorem tyT {K : PySem.W.Frag} {H : Hp} {a : Addr} {xs : List V} (h : SqT K H a xs) : TyX K H (.ref a) (.type "tuple") := by
  rcases h with (h | ⟨o, h⟩) | ⟨o, its, n, hk, hc, _⟩
  · exact .base (.tup h)
  · exact .fTuple h
  · exact .kTuple hk hc
/-- one thing stands for each -/
structure AllAt {α : Type} (R : Addr → α → Prop) (as : List Addr) (xs : List α) : Prop where
  len : as.length = xs.length
  at_ : ∀ (i : Nat) a x, as[i]? = some a → xs[i]? = some x → R a x
theorem AllAt.imp {α : Type} {R S : Addr → α → Prop} {as : List Addr} {xs : List α} (h : AllAt R as xs) (f : ∀ a x, R a x → S a x) : AllAt S as xs := ⟨h.len, fun i a x e1 e2 => f _ _ (h.at_ i a x e1 e2)⟩
theorem AllAt.get {α : Type} {R : Addr → α → Prop} {as : List Addr} {xs : List α} (h : AllAt R as xs) {i : Nat} {x : α} (e : xs[i]? = some x) : ∃ a, as[i]? = some a ∧ R a x := by
  have hi : i < as.length := by rw [h.len]; exact (List.getElem?_eq_some_iff.mp e).1
  exact ⟨as[i], List.getElem?_eq_getElem hi, h.at_ i _ x (List.getElem?_eq_getElem hi) e⟩
theorem AllAt.snoc {α : Type} {R : Addr → α → Prop} {as : List Addr} {xs : List α} (h : AllAt R as xs) {a : Addr} {x : α} (r : R a x) : AllAt R (as ++ [a]) (xs ++ [x]) := by
  refine ⟨by simp [h.len], fun i b y e1 e2 => ?_⟩
  by_cases hi : i < as.length
  · rw [List.getElem?_append_left hi] at e1
    rw [List.getElem?_append_left (by rw [← h.len]; exact hi)] at e2
    exact h.at_ i b y e1 e2
  · rw [List.getElem?_append_right (by omega)] at e1
    rw [List.getElem?_append_right (by rw [← h.len]; omega), ← h.len] at e2
    cases q : i - as.length with
    | zero =>
      rw [q] at e1 e2
      cases e1
      cases e2
      exact r
    | succ k => rw [q] at e1; cases e1
theorem AllAt.nil {α : Type} {R : Addr → α → Prop} : AllAt R [] ([] : List α) := ⟨rfl, fun i a x e _ => by simp at e⟩
theorem map_get {α β : Type} {f : α → β} {xs : List α} {i : Nat} {y : β} (h : (xs.map f)[i]? = some y) : ∃ x, xs[i]? = some x ∧ y = f x := by
  rw [List.getElem?_map] at h
  cases e : xs[i]? with
  | none => rw [e] at h; cases h
  | some x => rw [e] at h; exact ⟨x, rfl, (Option.some.inj h).symm⟩
abbrev nV (c : Nat) : V := .int (c : Int)
def SayAt (K : PySem.W.Frag) (H : Hp) (h : Addr) (ss : List (List Nat)) : Prop := ∃ as : List Addr, SqT K H h (as.map V.ref) ∧ AllAt (fun a cs => SqT K H a (cs.map nV)) as ss
def TelF (h : Addr) : List (Str × V) := putF "held" (.ref h) []
structure TelAt (K : PySem.W.Frag) (H : Hp) (t : Addr) (ws : List Int) (ss : List (List Nat)) : Prop where
  ex : ∃ dx h hw hs, H t = some (.ins (He.ga K "Teller") dx (TelF h)) ∧ SqT K H h [.ref hw, .ref hs] ∧ SqT K H hw (ws.map V.int) ∧ SayAt K H hs ss
theorem SayAt.same {K : PySem.W.Frag} {H H' : Hp} {h : Addr} {ss : List (List Nat)} (e : Same H H') (x : SayAt K H h ss) : SayAt K H' h ss := by
  obtain ⟨as, h1, h2⟩ := x
  exact ⟨as, sqT_same e h1, h2.imp fun _ _ z => sqT_same e z⟩
theorem TelAt.same {K : PySem.W.Frag} {H H' : Hp} {t : Addr} {ws : List Int} {ss : List (List Nat)} (e : Same H H') (x : TelAt K H t ws ss) : TelAt K H' t ws ss := by
  obtain ⟨dx, h, hw, hs, h1, h2, h3, h4⟩ := x.ex
  exact ⟨dx, h, hw, hs, e _ _ h1, sqT_same e h2, sqT_same e h3, h4.same e⟩
theorem sayAt_kp {K : PySem.W.Frag} {H H' : Hp} {v h : Addr} {ss : List (List Nat)} {ys : List V} (e : Kp v H H') (hv : H v = some (.lst ys)) (x : SayAt K H h ss) : SayAt K H' h ss := by
  obtain ⟨as, h1, h2⟩ := x
  exact ⟨as, sqT_kp e hv h1, h2.imp fun _ _ z => sqT_kp e hv z⟩
theorem telAt_kp {K : PySem.W.Frag} {H H' : Hp} {v t : Addr} {ws : List Int} {ss : List (List Nat)} {ys : List V} (e : Kp v H H') (hv : H v = some (.lst ys)) (x : TelAt K H t ws ss) : TelAt K H' t ws ss := by
  obtain ⟨dx, h, hw, hs, h1, h2, h3, h4⟩ := x.ex
  exact ⟨dx, h, hw, hs, e _ _ h1 (ne_of h1 hv (by intro z; cases z)), sqT_kp e hv h2, sqT_kp e hv h3, sayAt_kp e hv h4⟩
/-- what a teller is made of -/
structure Val (ws : List Int) (ss : List (List Nat)) : Prop where
  n2 : 2 ≤ ws.length
  n5 : ws.length ≤ 5
  wt : ∀ x, x ∈ ws → 1 ≤ x ∧ x ≤ 1000000
  m1 : ss ≠ []
  m5 : ss.length ≤ 5
  row : ∀ cs, cs ∈ ss → cs ≠ [] ∧ cs.Pairwise (· < ·) ∧ ∀ c, c ∈ cs → c < ws.length
  cov : ∀ k, k < ws.length → ∃ cs, cs ∈ ss ∧ k ∈ cs
theorem asc_len : ∀ {cs : List Nat} {n a : Nat}, cs.Pairwise (· < ·) → (∀ c, c ∈ cs → a ≤ c ∧ c < n) → cs.length + a ≤ n ∨ cs = []
  | [], _, _, _, _ => .inr rfl
  | c :: cs, n, a, h, hb => by
    obtain ⟨h1, h2⟩ := List.pairwise_cons.mp h
    have hc := hb c List.mem_cons_self
    rcases asc_len (a := a + 1) h2 (fun d hd => ⟨by have := h1 d hd; omega, (hb d (List.mem_cons_of_mem _ hd)).2⟩) with z | z
    · exact .inl (by rw [List.length_cons]; omega)
    · exact .inl (by rw [z]; simp; omega)
theorem Val.short {ws : List Int} {ss : List (List Nat)} (v : Val ws ss) {cs : List Nat} (h : cs ∈ ss) : cs.length ≤ 5 := by
  obtain ⟨_, h2, h3⟩ := v.row cs h
  have := v.n5
  rcases asc_len (a := 0) h2 (fun c hc => ⟨Nat.zero_le _, h3 c hc⟩) with z | z
  · omega
  · rw [z]; simp
theorem line_of {n : Nat} (h : n ≤ 1000) : n ≤ sizeLine := Nat.le_of_lt (small1000 h)
/-! ### promises -/
def spIsInt : Sp := fun vs H Q _ => ∃ i : Int, vs = [.int i] ∧ Q (.bl true) H
def spBetween : Sp := fun vs H Q _ => ∃ v lo hi : Int, vs = [.int v, .int lo, .int hi] ∧ lo ≤ v ∧ v ≤ hi ∧ Q (.bl true) H
def spAsc (K : PySem.W.Frag) : Sp := fun vs H Q _ => ∃ (a : Addr) (cs : List Nat), vs = [.ref a] ∧ SqT K H a (cs.map nV) ∧ cs.Pairwise (· < ·) ∧ cs.length ≤ 100 ∧ ∀ H', Same H H' → Q (.bl true) H'
def spLot (K : PySem.W.Frag) : Sp := fun vs H Q _ => ∃ (a : Addr) (cs : List Nat) (n : Nat), vs = [.ref a, nV n] ∧ SqT K H a (cs.map nV) ∧ cs.Pairwise (· < ·) ∧ (∀ c, c ∈ cs → c < n) ∧ cs.length ≤ 100 ∧ ∀ H', Same H H' → Q (.bl true) H'
def spCheckW (K : PySem.W.Frag) : Sp := fun vs H Q _ => ∃ (a : Addr) (ws : List Int), vs = [.ref a] ∧ SqT K H a (ws.map V.int) ∧ 2 ≤ ws.length ∧ ws.length ≤ 5 ∧ (∀ x, x ∈ ws → 1 ≤ x ∧ x ≤ 1000000) ∧ ∀ H', Same H H' → Q .non H'
def spCheckS (K : PySem.W.Frag) : Sp := fun vs H Q _ => ∃ (a : Addr) (ws : List Int) (ss : List (List Nat)), vs = [.ref a, nV ws.length] ∧ SayAt K H a ss ∧ Val ws ss ∧ ∀ H', Same H H' → Q .non H'
def spTinit (K : PySem.W.Frag) : Sp := fun vs H Q _ => ∃ (t dx hw hs : Addr) (ws : List Int) (ss : List (List Nat)), vs = [.ref t, .ref hw, .ref hs] ∧ H t = some (.ins (He.ga K "Teller") dx []) ∧ SqT K H hw (ws.map V.int) ∧ SayAt K H hs ss ∧ Val ws ss ∧
  ∀ H', Kp t H H' → TelAt K H' t ws ss → Q .non H'
def spProp (K : PySem.W.Frag) (sel : Addr → Addr → Addr) : Sp := fun vs H Q _ => ∃ (t dx h hw hs : Addr), vs = [.ref t] ∧ H t = some (.ins (He.ga K "Teller") dx (TelF h)) ∧ SqT K H h [.ref hw, .ref hs] ∧ Q (.ref (sel hw hs)) H
/-- the sayings that may be said in a case -/
def said (ss : List (List Nat)) (k : Nat) : List Nat := (List.range ss.length).filter fun i => decide (k ∈ ss.getD i [])
def spSaid (K : PySem.W.Frag) : Sp := fun vs H Q _ => ∃ (t : Addr) (ws : List Int) (ss : List (List Nat)) (k : Nat), vs = [.ref t, nV k] ∧ TelAt K H t ws ss ∧ ss.length ≤ 100 ∧
  ∀ p H', Same H H' → H' p = some (.tup ((said ss k).map nV)) → H p = none → Q (.ref p) H'
def spCheckT (K : PySem.W.Frag) : Sp := fun vs H Q _ => ∃ (t : Addr) (ws : List Int) (ss : List (List Nat)), vs = [.ref t] ∧ TelAt K H t ws ss ∧ Q .non H
/-! ### lemmas -/
theorem inV_nat (c : Nat) (cs : List Nat) : inV (nV c) (cs.map nV) = decide (c ∈ cs) := by
  unfold inV
  rw [Bool.eq_iff_iff, List.any_eq_true, decide_eq_true_iff]
  constructor
  · rintro ⟨x, hx, e⟩
    obtain ⟨d, hd, rfl⟩ := List.mem_map.mp hx
    have : (d : Int) = (c : Int) := by simpa [eqV] using e
    have : d = c := by omega
    rw [← this]; exact hd
  · intro h
    exact ⟨nV c, List.mem_map.mpr ⟨c, h, rfl⟩, by simp [eqV]⟩
theorem flat_nat (cs : List Nat) : (cs.map nV).all flatV = true := by
  rw [List.all_eq_true]
  intro x hx
  obtain ⟨d, _, rfl⟩ := List.mem_map.mp hx
  rfl
theorem all_true {n : Nat} : (List.replicate n true).all id = true := by simp
theorem snoc_rep {n : Nat} : (List.replicate n true).map V.bl ++ [V.bl true] = (List.replicate (n + 1) true).map V.bl := by
  rw [List.map_replicate, List.map_replicate, List.replicate_succ']
theorem asc_step {cs : List Nat} (h : cs.Pairwise (· < ·)) {i : Nat} (hi : i + 1 < cs.length) : cs[i]'(by omega) < cs[i + 1] := List.pairwise_iff_getElem.mp h i (i + 1) (by omega) hi (by omega)
theorem said_snoc (ss : List (List Nat)) (k i : Nat) : ((List.range (i + 1)).filter fun i => decide (k ∈ ss.getD i [])) = ((List.range i).filter fun i => decide (k ∈ ss.getD i [])) ++ if k ∈ ss.getD i [] then [i] else [] := by
  rw [List.range_succ, List.filter_append]
  congr 1
  by_cases h : k ∈ ss.getD i []
  · rw [if_pos h, List.filter_cons_of_pos (by simpa using h)]; rfl
  · rw [if_neg h, List.filter_cons_of_neg (by simpa using h)]; rfl
end Kg

set_option maxHeartbeats 4000000
/-! The walk: tellers made and read. -/
namespace Kg
open PySem PySem.Spec PyProof.Rows L2 Mi
section
variable {P : Program} {w : World} {K : PySem.W.Frag} {mg : Str → Option Value} {base : Heap} (T : Tx K mg)
include T
theorem C_is_integer : Cb P w K mg base "is_integer" 1 ["value"] spIsInt := by
  refine cb_of T d_is_integer n_is_integer rfl m_glo_is_integer sc_is_integer ba_is_integer ?_ ?_
  · rintro vs H Q E ⟨i, rfl, _⟩; rfl
  · rintro f cdv A outer s H vs Q E hr ⟨i, rfl, q⟩
    refine ⟨_, (pss_one (ps_ret (pe_and (pe_callB (callIsi (K := K) rfl) (by rfl) (T.free "isinstance" m_free_isinstance) bt_isinstance (pa_cons (pv 0) (pa_cons (pe_bltn (v := .ty "int") (by rfl) (T.free "int" m_free_int) bt_int rfl) pa_nil))) (pe_one (pe_not (pe_callB (callIsi (K := K) rfl) (by rfl) (T.free "isinstance" m_free_isinstance) bt_isinstance (pa_cons (pv 0) (pa_cons (pe_bltn (v := .ty "bool") (by rfl) (T.free "bool" m_free_bool) bt_bool rfl) pa_nil)))))))), ?_⟩
    refine ⟨_, rfl, _, _, _, _, true, rfl, .ty _, .base (.int i), kit_ty (by decide +kernel), true, rfl, iteT ⟨_, rfl, _, _, _, _, false, rfl, .ty _, .base (.int i), kit_ty (by decide +kernel), false, rfl, q⟩⟩
theorem C_is_between : Cb P w K mg base "is_between" 2 ["value", "low", "high"] spBetween := by
  refine cb_of T d_is_between n_is_between rfl m_glo_is_between sc_is_between ba_is_between ?_ ?_
  · rintro vs H Q E ⟨v, lo, hi, rfl, _⟩; rfl
  · rintro f cdv A outer s H vs Q E hr ⟨v, lo, hi, rfl, h1, h2, q⟩
    refine ⟨_, (pss_one (ps_ret (pe_and (pe_cb (C_is_integer T) (hr.mono (by decide)) (by rfl) (pa_cons (pv 0) pa_nil)) (pe_one (pe_chain op_le op_le (pv 1) (pv 0) (pv 2)))))), ?_⟩
    refine ⟨_, rfl, v, rfl, true, rfl, iteT ⟨_, rfl, _, rfl, _, _, rfl, rfl, true, ?_, iteT ⟨_, rfl, _, _, rfl, rfl, ?_⟩⟩⟩
    · exact congrArg V.bl (decide_eq_true h1)
    · show Q (.bl (decide (v ≤ hi))) H
      rw [decide_eq_true h2]; exact q
theorem C_is_ascending : Cb P w K mg base "is_ascending" 1 ["values"] (spAsc K) := by
  refine cb_of T d_is_ascending n_is_ascending rfl m_glo_is_ascending sc_is_ascending ba_is_ascending ?_ ?_
  · rintro vs H Q E ⟨a, cs, rfl, _⟩; rfl
  · rintro f cdv A outer s H vs Q E hr ⟨a, cs, rfl, ha, hasc, hl, q⟩
    refine ⟨_, (pss_one (ps_ret (pe_callB (crAll (K := K) rfl rfl) (by rfl) (T.free "all" m_free_all) bt_all (pa_cons (pe_lc (own := [("index", 1)]) (by rfl) sc_is_ascending.nd (pi_range2 (by rfl) (T.free "range" m_free_range) (pa_cons pe_int (pa_cons (pe_callB (callLen (K := K) rfl) (by rfl) (T.free "len" m_free_len) bt_len (pa_cons (pv 0) pa_nil)) pa_nil))) (blkOk_by (own := [("index", 1)]) (N := N_is_ascending) (sc := defScope s_is_ascending) (by decide +kernel)) (fun _ _ _ _ _ => pg_name (i := 1) sc_is_ascending.nd rfl (Or.inl rfl)) (fun _ _ _ _ _ => pts_nil) (fun _ _ _ _ _ => (pe_cmpR op_lt (pe_ix (ixT (K := K) rfl) (pv 0) (pe_op op_sub (pv 1) pe_int) (fun _ _ => rfl)) (pe_ix (ixT (K := K) rfl) (pv 0) (pv 1) (fun _ _ => rfl)) (nomark _)))) pa_nil)))), ?_⟩
    have hlen : (cs.map nV).length = cs.length := List.length_map _
    refine ⟨_, rfl, a, _, rfl, .inr ha, 1, _, rfl, ⟨by decide, by decide, by rw [hlen]; omega, by rw [hlen]; omega⟩, fun D hD => ?_⟩
    rw [hlen]
    refine lc_run (walk_range (lo := 1) (n := ((cs.length : Int) - 1).toNat)) hD (fun i H acc => acc = (List.replicate i true).map V.bl) (fun _ _ => trivial) (fun _ _ _ _ _ _ _ h => h) (fun _ _ => rfl) (line_of (by omega)) ?_ ?_
    · rintro i x H1 H' acc k k0 hi s1 hacc hal rfl ⟨rfl, rfl⟩ hk _
      have e1 : i + 1 < cs.length := by omega
      have h1 : atI (cs.map nV) (1 + (i : Int) - 1) = some (nV (cs[i]'(by omega))) := by
        rw [show (1 + (i : Int) - 1) = ((i : Nat) : Int) by omega]
        exact atI_nat (by rw [List.getElem?_map, List.getElem?_eq_getElem (by omega)]; rfl)
      have h2 : atI (cs.map nV) (1 + (i : Int)) = some (nV cs[i + 1]) := by
        rw [show (1 + (i : Int)) = ((i + 1 : Nat) : Int) by omega]
        exact atI_nat (by rw [List.getElem?_map, List.getElem?_eq_getElem e1]; rfl)
      refine ⟨rfl, _, rfl, _, rfl, _, _, rfl, rfl, a, _, _, _, rfl, rfl, sqT_same s1 ha, h1, _, rfl, _, rfl, a, _, _, _, rfl, rfl, sqT_same s1 ha, h2, _, _, rfl, rfl, ?_⟩
      have := asc_step hasc e1
      dsimp only
      rw [decide_eq_true (show ((cs[i]'(by omega) : Nat) : Int) < ((cs[i + 1] : Nat) : Int) by omega)]
      exact hk _ _ (Same.refl _) snoc_rep
    · rintro H1 acc s1 hacc hal rfl
      refine ⟨D, _, rfl, .inl (.inl hacc), ?_⟩
      rw [all_true]
      exact q H1 s1
theorem C_check_weights : Cb P w K mg base "check_weights" 3 ["values"] (spCheckW K) := by
  refine cb_of T d_check_weights n_check_weights rfl m_glo_check_weights sc_check_weights ba_check_weights ?_ ?_
  · rintro vs H Q E ⟨a, ws, rfl, _⟩; rfl
  · rintro f cdv A outer s H vs Q E hr ⟨a, ws, rfl, ha, h2, h5, hw, q⟩
    refine ⟨_, (pss_cons (ps_if (PW.pt (pw_or (pt_not (pt_val (pe_callB (callIsi (K := K) rfl) (by rfl) (T.free "isinstance" m_free_isinstance) bt_isinstance (pa_cons (pv 0) (pa_cons (pe_bltn (v := .ty "tuple") (by rfl) (T.free "tuple" m_free_tuple) bt_tuple rfl) pa_nil))))) (pw_or1 (pt_cmpR op_lt (pe_callB (callLen (K := K) rfl) (by rfl) (T.free "len" m_free_len) bt_len (pa_cons (pv 0) pa_nil)) (pe_glob (v := .int 2) rfl (T.int "LEAST_CASES" 2 m_int_LEAST_CASES).choose_spec ⟨_, rfl⟩) (nomark _)))))
      (pss_one (ps_never))
      pss_nil)
    (pss_one (ps_for PassesOwn.never rfl (piE (K := K) rfl (by rfl) (T.free "enumerate" m_free_enumerate) (pa_cons (pv 0) pa_nil)) (pgT (K := K) (n := 2) rfl (by rfl) (pgs_cons (pg_name (i := 1) sc_check_weights.nd rfl (Or.inl rfl)) (pgs_cons (pg_name (i := 2) sc_check_weights.nd rfl (Or.inl rfl)) (pgs_nil))))
      (pss_one (ps_if (PW.pt (pw_or (pt_cmpR op_eq (pv 1) (pe_glob (v := .int 8) rfl (T.int "MOST_CASES" 8 m_int_MOST_CASES).choose_spec ⟨_, rfl⟩) (nomark _)) (pw_or1 (pt_not (pt_val (pe_cb (C_is_between T) (hr.mono (by decide)) (by rfl) (pa_cons (pv 2) (pa_cons pe_int (pa_cons (pe_glob (v := .int 1000000) rfl (T.int "MOST_WEIGHT" 1000000 m_int_MOST_WEIGHT).choose_spec ⟨_, rfl⟩) pa_nil)))))))))
        (pss_one (ps_never))
        pss_nil))))), ?_⟩
    have hlen : (ws.map V.int).length = ws.length := List.length_map _
    refine ⟨_, rfl, _, _, _, _, true, rfl, .ty _, tyT ha, kit_ty (by decide +kernel), true, rfl, iteF ⟨_, rfl, a, _, rfl, .inr ha, _, _, rfl, rfl, _, rfl, ?_⟩⟩
    rw [decide_eq_false (by rw [hlen]; omega)]
    refine iteF ?_
    refine ⟨_, rfl, a, _, rfl, ha, for_it (walk_enumT (K := K) (a := a) (xs := ws.map V.int)) (fun i σ H1 => ∃ x y, σ = [some (.ref a), x, y] ∧ Same H H1) ⟨none, none, rfl, Same.refl _⟩ (fun i σ H1 _ ⟨_, _, _, s1⟩ => sqT_same s1 ha) ?_ ?_⟩
    · rintro i x σ H1 H' hi ⟨x0, y0, rfl, s1⟩ ⟨Tt, u, v, rfl, hT, rfl, hu, hv⟩
      cases hu
      obtain ⟨z, hz, rfl⟩ := map_get hv
      have hz2 := hw z (List.mem_of_getElem? hz)
      rw [hlen] at hi
      refine ⟨Tt, _, rfl, .inl (.inl upd_same), rfl, _, _, rfl, _, _, rfl, rfl, _, rfl, rfl, _, rfl, ?_⟩
      rw [decide_eq_false (fun z => by injection z with z; omega)]
      refine iteF ⟨_, rfl, z, 1, 1000000, rfl, hz2.1, hz2.2, true, rfl, iteF ⟨_, _, rfl, same_newt s1 hT⟩⟩
    · rintro σ H1 ⟨x0, y0, rfl, s1⟩
      exact q H1 s1
theorem C_is_lot : Cb P w K mg base "is_lot" 3 ["value", "many"] (spLot K) := by
  refine cb_of T d_is_lot n_is_lot rfl m_glo_is_lot sc_is_lot ba_is_lot ?_ ?_
  · rintro vs H Q E ⟨a, cs, n, rfl, _⟩; rfl
  · rintro f cdv A outer s H vs Q E hr ⟨a, cs, n, rfl, ha, hasc, hc, hl, q⟩
    refine ⟨_, (pss_cons (ps_if (PW.pt (pw_or (pt_not (pt_val (pe_callB (callIsi (K := K) rfl) (by rfl) (T.free "isinstance" m_free_isinstance) bt_isinstance (pa_cons (pv 0) (pa_cons (pe_bltn (v := .ty "tuple") (by rfl) (T.free "tuple" m_free_tuple) bt_tuple rfl) pa_nil))))) (pw_or1 (pt_not (pt_val (pe_callB (crAll (K := K) rfl rfl) (by rfl) (T.free "all" m_free_all) bt_all (pa_cons (pe_lc (own := [("case", 2)]) (by rfl) sc_is_lot.nd (piT (K := K) rfl (pv 0)) (blkOk_by (own := [("case", 2)]) (N := N_is_lot) (sc := defScope s_is_lot) (by decide +kernel)) (fun _ _ _ _ _ => pg_name (i := 2) sc_is_lot.nd rfl (Or.inl rfl)) (fun _ _ _ _ _ => pts_nil) (fun _ _ _ _ _ => (pe_cb (C_is_between T) (hr.mono (by decide)) (by rfl) (pa_cons (pv 2) (pa_cons pe_int (pa_cons (pe_op op_sub (pv 1) pe_int) pa_nil)))))) pa_nil)))))))
      (pss_one (ps_ret pe_bl))
      pss_nil)
    (pss_one (ps_ret (pe_cb (C_is_ascending T) (hr.mono (by decide)) (by rfl) (pa_cons (pv 0) pa_nil))))), ?_⟩
    have hlen : (cs.map nV).length = cs.length := List.length_map _
    refine ⟨_, rfl, _, _, _, _, true, rfl, .ty _, tyT ha, kit_ty (by decide +kernel), true, rfl, iteF ⟨_, rfl, a, rfl, ⟨_, ha⟩, fun D hD => ?_⟩⟩
    refine lc_run (walk_tup (K := K) (a := a) (xs := cs.map nV)) hD (fun i H acc => acc = (List.replicate i true).map V.bl) (fun _ s1 => sqT_same s1 ha) (fun _ _ _ _ _ _ _ h => h) (fun _ _ => rfl) (by rw [hlen]; exact line_of (by omega)) ?_ ?_
    · rintro i x H1 H' acc k k0 hi s1 hacc hal rfl ⟨rfl, hx⟩ hk _
      obtain ⟨c, hcs, rfl⟩ := map_get hx
      have hcn := hc c (List.mem_of_getElem? hcs)
      refine ⟨rfl, _, rfl, _, rfl, _, _, rfl, rfl, _, _, _, rfl, by omega, by omega, ?_⟩
      exact hk _ _ (Same.refl _) snoc_rep
    · rintro H1 acc s1 hacc hal rfl
      refine ⟨D, _, rfl, .inl (.inl hacc), ?_⟩
      rw [all_true]
      refine ⟨true, rfl, iteF ⟨_, rfl, a, cs, rfl, sqT_same s1 ha, hasc, hl, fun H2 s2 => q H2 (s1.trans s2)⟩⟩
end
end Kg

set_option maxHeartbeats 4000000
/-! The walk: tellers made and read, further. -/
namespace Kg
open PySem PySem.Spec PyProof.Rows L2 Mi
theorem eqv_nil {d : PyData} {ds : List PyData} : PyData.eqv (.tuple (d :: ds)) (.tuple []) = false := rfl
abbrev dI (c : Nat) : PyData := .int (c : Int)
mutual
theorem dpNat (K : PySem.W.Frag) (H : Hp) : ∀ cs : List Nat, DpAll K H (cs.map nV) (cs.map dI)
  | [] => .nil
  | c :: cs => .cons (.int _) (dpNat K H cs)
end
theorem canNat : ∀ cs : List Nat, PyData.canLayAll0 (cs.map dI) = true
  | [] => rfl
  | c :: cs => by
    show (PyData.canLay0 (dI c) && PyData.canLayAll0 (cs.map dI)) = true
    rw [canNat cs]; rfl
theorem depNat : ∀ cs : List Nat, PyData.depthAll (cs.map dI) ≤ 1
  | [] => by simp [PyData.depthAll]
  | c :: cs => by
    have := depNat cs
    simp only [List.map_cons, PyData.depthAll, PyData.depth]
    omega
theorem shNat (cs : List Nat) : SeqAt.shaped (.tuple (cs.map dI)) = true := by
  have h := depNat cs
  show ((PyData.canLay0 (.tuple (cs.map dI))) && decide (PyData.depth (.tuple (cs.map dI)) ≤ 64)) = true
  rw [Bool.and_eq_true]
  refine ⟨?_, decide_eq_true (by simp only [PyData.depth]; omega)⟩
  show PyData.canLayAll0 (cs.map dI) = true
  exact canNat cs
/-- lots as data -/
def lotD (cs : List Nat) : PyData := .tuple (cs.map dI)
theorem sayD {K : PySem.W.Frag} {H : Hp} : ∀ {as : List Addr} {ss : List (List Nat)}, AllAt (fun a cs => SqT K H a (cs.map nV)) as ss → DpAll K H (as.map V.ref) (ss.map lotD)
  | [], [], _ => .nil
  | [], _ :: _, h => by have := h.len; simp at this
  | _ :: _, [], h => by have := h.len; simp at this
  | a :: as, cs :: ss, h => by
    refine .cons (.tup (h.at_ 0 a cs rfl rfl) (dpNat K H cs)) (sayD ⟨by have := h.len; simpa using this, fun i b ds e1 e2 => h.at_ (i + 1) b ds (by simpa using e1) (by simpa using e2)⟩)
theorem canSay : ∀ ss : List (List Nat), PyData.canLayAll0 (ss.map lotD) = true
  | [] => rfl
  | cs :: ss => by
    show (PyData.canLay0 (lotD cs) && PyData.canLayAll0 (ss.map lotD)) = true
    rw [canSay ss, Bool.and_true]
    exact canNat cs
theorem depSay : ∀ ss : List (List Nat), PyData.depthAll (ss.map lotD) ≤ 2
  | [] => by simp [PyData.depthAll]
  | cs :: ss => by
    have h1 := depSay ss
    have h2 := depNat cs
    simp only [List.map_cons, PyData.depthAll, lotD, PyData.depth] at h1 ⊢
    omega
theorem shSay (ss : List (List Nat)) : SeqAt.shaped (.tuple (ss.map lotD)) = true := by
  have h := depSay ss
  show ((PyData.canLay0 (.tuple (ss.map lotD))) && decide (PyData.depth (.tuple (ss.map lotD)) ≤ 64)) = true
  rw [Bool.and_eq_true]
  refine ⟨?_, decide_eq_true (by simp only [PyData.depth]; omega)⟩
  show PyData.canLayAll0 (ss.map lotD) = true
  exact canSay ss
theorem emptyD {K : PySem.W.Frag} {H : Hp} {p : Addr} : Dp K (upd H p (.tup [])) (.ref p) (.tuple []) := .tup (.inl (.inl upd_same)) .nil
theorem lot_ne {cs : List Nat} (h : cs ≠ []) : PyData.eqv (lotD cs) (.tuple []) = false := by
  cases cs with
  | nil => exact absurd rfl h
  | cons c cs => rfl
theorem say_ne {ss : List (List Nat)} (h : ss ≠ []) : PyData.eqv (.tuple (ss.map lotD)) (.tuple []) = false := by
  cases ss with
  | nil => exact absurd rfl h
  | cons c cs => rfl
theorem telF_get (h : Addr) : (TelF h).lookup ("held" : Str) = some (.ref h) := by
  unfold TelF
  rw [lookup_putF, if_pos rfl]
theorem telF_no (h : Addr) {m : Str} (n : ¬ m = "held") : (TelF h).lookup m = none := by
  unfold TelF
  rw [lookup_putF, if_neg n]; rfl
theorem any_snoc (k : Nat) (ss : List (List Nat)) (i : Nat) (cs : List Nat) (h : ss[i]? = some cs) : (ss.take i).map (fun cs => V.bl (decide (k ∈ cs))) ++ [V.bl (decide (k ∈ cs))] = (ss.take (i + 1)).map fun cs => V.bl (decide (k ∈ cs)) := by
  rw [List.take_succ, h, List.map_append]; rfl
section
variable {P : Program} {w : World} {K : PySem.W.Frag} {mg : Str → Option Value} {base : Heap} (T : Tx K mg)
include T
theorem C_check_sayings : Cb P w K mg base "check_sayings" 4 ["values", "many"] (spCheckS K) := by
  refine cb_of T d_check_sayings n_check_sayings rfl m_glo_check_sayings sc_check_sayings ba_check_sayings ?_ ?_
  · rintro vs H Q E ⟨a, ws, ss, rfl, _⟩; rfl
  · rintro f cdv A outer s H vs Q E hr ⟨a, ws, ss, rfl, hS, v, q⟩
    refine ⟨_, (pss_cons (ps_if (PW.pt (pw_or (pt_not (pt_val (pe_callB (callIsi (K := K) rfl) (by rfl) (T.free "isinstance" m_free_isinstance) bt_isinstance (pa_cons (pv 0) (pa_cons (pe_bltn (v := .ty "tuple") (by rfl) (T.free "tuple" m_free_tuple) bt_tuple rfl) pa_nil))))) (pw_or1 (pt_cmpR (opEqD (K := K) rfl hr.units) (pv 0) (pe_tup pa_nil) (nomark _)))))
      (pss_one (ps_never))
      pss_nil)
    (pss_cons (ps_for PassesOwn.never rfl (piE (K := K) rfl (by rfl) (T.free "enumerate" m_free_enumerate) (pa_cons (pv 0) pa_nil)) (pgT (K := K) (n := 2) rfl (by rfl) (pgs_cons (pg_name (i := 2) sc_check_sayings.nd rfl (Or.inl rfl)) (pgs_cons (pg_name (i := 3) sc_check_sayings.nd rfl (Or.inl rfl)) (pgs_nil))))
      (pss_one (ps_if (PW.pt (pw_or (pt_cmpR op_eq (pv 2) (pe_glob (v := .int 16) rfl (T.int "MOST_SAYINGS" 16 m_int_MOST_SAYINGS).choose_spec ⟨_, rfl⟩) (nomark _)) (pw_or (pt_not (pt_val (pe_cb (C_is_lot T) (hr.mono (by decide)) (by rfl) (pa_cons (pv 3) (pa_cons (pv 1) pa_nil))))) (pw_or1 (pt_cmpR (opEqD (K := K) rfl hr.units) (pv 3) (pe_tup pa_nil) (nomark _))))))
        (pss_one (ps_never))
        pss_nil)))
    (pss_one (ps_if (pt_not (pt_val (pe_callB (crAll (K := K) rfl rfl) (by rfl) (T.free "all" m_free_all) bt_all (pa_cons (pe_lc (own := [("case", 4)]) (by rfl) sc_check_sayings.nd (pi_range1 (by rfl) (T.free "range" m_free_range) (pa_cons (pv 1) pa_nil)) (blkOk_by (own := [("case", 4)]) (N := N_check_sayings) (sc := defScope s_check_sayings) (by decide +kernel)) (fun _ _ _ _ _ => pg_name (i := 4) sc_check_sayings.nd rfl (Or.inr rfl)) (fun _ _ _ _ _ => pts_nil) (fun _ _ _ _ _ => (pe_callB (crAny (K := K) rfl rfl) (by rfl) (T.free "any" m_free_any) bt_any (pa_cons (pe_lc (own := [("value", 3)]) (by rfl) sc_check_sayings.nd (piT (K := K) rfl (pv 0)) (blkOk_by (own := [("value", 3)]) (N := N_check_sayings) (by rfl)) (fun _ _ _ _ _ => pg_name (i := 3) sc_check_sayings.nd rfl (Or.inl rfl)) (fun _ _ _ _ _ => pts_nil) (fun _ _ _ _ _ => (pe_cmpR (opIn (K := K) rfl) (pv 4) (pv 3) (by rfl)))) pa_nil)))) pa_nil))))
      (pss_one (ps_never))
      pss_nil)))), ?_⟩
    obtain ⟨as, ha, hA⟩ := id hS
    have hlen : (as.map V.ref).length = ss.length := by rw [List.length_map, hA.len]
    have hm5 := v.m5
    have hn5 := v.n5
    refine ⟨_, rfl, _, _, _, _, true, rfl, .ty _, tyT ha, kit_ty (by decide +kernel), true, rfl, iteF ⟨_, rfl, (by show 0 ≤ sizeLine; decide), fun p hp => ?_⟩⟩
    have s0 : Same H (upd H p (.tup [])) := same_new hp
    refine ⟨.tuple (ss.map lotD), .tuple [], .tup (sqT_same s0 ha) (sayD (hA.imp fun _ _ z => sqT_same s0 z)), emptyD, shSay ss, by rfl, false, ?_, iteF ?_⟩
    · rw [say_ne v.m1]
    -- the lots, one by one
    refine ⟨_, rfl, a, _, rfl, sqT_same s0 ha, for_it (walk_enumT (K := K) (a := a) (xs := as.map V.ref)) (fun i σ H1 => ∃ x y, σ = [some (.ref a), some (nV ws.length), x, y, none] ∧ Same H H1) ⟨none, none, rfl, s0⟩ (fun i σ H1 _ ⟨_, _, _, s1⟩ => sqT_same s1 ha) ?_ ?_⟩
    · rintro i x σ H1 H' hi ⟨x0, y0, rfl, s1⟩ ⟨Tt, u, vv, rfl, hT, rfl, hu, hv⟩
      cases hu
      obtain ⟨z, hz, rfl⟩ := map_get hv
      rw [hlen] at hi
      have hcs : ss[i]? = some ss[i] := List.getElem?_eq_getElem hi
      obtain ⟨r1, r2, r3⟩ := v.row _ (List.mem_of_getElem? hcs)
      have r4 := v.short (List.mem_of_getElem? hcs)
      have s2 : Same H (upd H1 Tt (.tup [.int (i : Nat), .ref z])) := same_newt s1 hT
      have hzT := hA.at_ i z _ hz hcs
      refine ⟨Tt, _, rfl, .inl (.inl upd_same), rfl, _, _, rfl, _, _, rfl, rfl, _, rfl, rfl, _, rfl, ?_⟩
      rw [decide_eq_false (fun z => by injection z with z; omega)]
      refine iteF ⟨_, rfl, _, rfl, z, _, _, rfl, sqT_same s2 hzT, r2, r3, by omega, fun H2 s3 => ⟨true, rfl, iteF ⟨_, rfl, (by show 0 ≤ sizeLine; decide), fun p2 hp2 => ?_⟩⟩⟩
      have s4 : Same H (upd H2 p2 (.tup [])) := same_newt (s2.trans s3) hp2
      refine ⟨lotD ss[i], .tuple [], .tup (sqT_same s4 hzT) (dpNat K _ _), emptyD, shNat _, by rfl, false, ?_, iteF ⟨_, _, rfl, s4⟩⟩
      rw [lot_ne r1]
    · rintro σ H1 ⟨x0, y0, rfl, s1⟩
      -- each case is in some lot
      refine ⟨_, rfl, ws.length, rfl, by omega, by omega, fun D hD => ?_⟩
      refine lc_run (walk_range (lo := 0) (n := ((ws.length : Nat) : Int).toNat)) hD (fun i H acc => acc = (List.replicate i true).map V.bl) (fun _ _ => trivial) (fun _ _ _ _ _ _ _ h => h) (fun _ _ => rfl) (line_of (by omega)) ?_ ?_
      · rintro i x H2 H' acc k k0 hi s2 hacc hal rfl ⟨rfl, rfl⟩ hk _
        have hik : i < ws.length := by omega
        refine ⟨rfl, _, rfl, a, rfl, ⟨_, sqT_same (s1.trans s2) ha⟩, fun D2 hD2 => ?_⟩
        refine lc_run (walk_tup (K := K) (a := a) (xs := as.map V.ref)) hD2 (fun j H acc => acc = (ss.take j).map fun cs => V.bl (decide (i ∈ cs))) (fun _ s3 => sqT_same (s1.trans (s2.trans s3)) ha) (fun _ _ _ _ _ _ _ h => h) (fun _ _ => rfl) (by rw [hlen]; exact line_of (by omega)) ?_ ?_
        · rintro j x H3 H' acc kk kk0 hj s3 hacc3 hal3 rfl ⟨rfl, hx⟩ hkk _
          obtain ⟨z, hz, rfl⟩ := map_get hx
          rw [hlen] at hj
          have hcs : ss[j]? = some ss[j] := List.getElem?_eq_getElem hj
          have hzT := sqT_same (s1.trans (s2.trans s3)) (hA.at_ j z _ hz hcs)
          refine ⟨rfl, _, rfl, _, rfl, z, _, rfl, .inr hzT, rfl, flat_nat _, ?_⟩
          show kk (V.bl (inV (V.int (0 + (i : Int))) (ss[j].map nV))) _
          rw [Int.zero_add, inV_nat]
          exact hkk _ _ (Same.refl _) (any_snoc i ss j _ hcs)
        · rintro H3 acc s3 hacc3 hal3 rfl
          refine ⟨D2, ss.map (fun cs => decide (i ∈ cs)), rfl, .inl (.inl ?_), ?_⟩
          · rw [hacc3, hlen, List.take_length, List.map_map]; rfl
          · have e : (ss.map (fun cs => decide (i ∈ cs))).any id = true := by
              obtain ⟨cs, h1, h2⟩ := v.cov i hik
              rw [List.any_eq_true]
              exact ⟨true, List.mem_map.mpr ⟨cs, h1, decide_eq_true h2⟩, rfl⟩
            rw [e]
            exact hk _ _ s3 snoc_rep
      · rintro H2 acc s2 hacc hal rfl
        refine ⟨D, _, rfl, .inl (.inl hacc), ?_⟩
        rw [all_true]
        exact ⟨true, rfl, iteF (q H2 (s1.trans s2))⟩
theorem M_Teller : Ck P w K mg base "Teller" (He.ga K "Teller") 5 ["self", "weights", "sayings"] (spTinit K) := by
  refine ck_of T d_Teller_init n_Teller_init rfl m_mkr_Teller m_glo_Teller sc_Teller_init ba_Teller_init ?_ ?_
  · rintro vs H Q E ⟨t, dx, hw, hs, ws, ss, rfl, _⟩; rfl
  · rintro f cdv A outer s H vs Q E hr ⟨t, dx, hw, hs, ws, ss, rfl, ht, hW, hS, v, q⟩
    refine ⟨_, (pss_cons (ps_expr (pe_cb (C_check_weights T) (hr.mono (by decide)) (by rfl) (pa_cons (pv 1) pa_nil)))
    (pss_cons (ps_expr (pe_cb (C_check_sayings T) (hr.mono (by decide)) (by rfl) (pa_cons (pv 2) (pa_cons (pe_callB (callLen (K := K) rfl) (by rfl) (T.free "len" m_free_len) bt_len (pa_cons (pv 1) pa_nil)) pa_nil))))
    (pss_one (ps_fld (pv 0) (pe_tup (pa_cons (pv 1) (pa_cons (pv 2) pa_nil))) rfl)))), ?_⟩
    have hlen : (ws.map V.int).length = ws.length := List.length_map _
    refine ⟨_, rfl, hw, ws, rfl, hW, v.n2, v.n5, v.wt, fun H1 s1 => ⟨_, rfl, _, rfl, hw, _, rfl, .inr (sqT_same s1 hW), hs, ws, ss, ?_, hS.same s1, v, fun H2 s2 => ?_⟩⟩
    · rw [hlen]; rfl
    · have s12 := s1.trans s2
      refine ⟨_, rfl, _, rfl, (by show 2 ≤ sizeLine; decide), fun p hp => ?_⟩
      have s3 := same_newt (o := .tup [.ref hw, .ref hs]) s12 hp
      have ht3 := s3 _ _ ht
      refine ⟨_, rfl, t, _, dx, [], rfl, ht3, T.cls "Teller" m_cls_Teller, T.noat "Teller" "held" m_noat_Teller_held, (by show 0 < 1000; decide), ?_⟩
      have hk : Kp t H (upd (upd H2 p (.tup [.ref hw, .ref hs])) t (.ins (He.ga K "Teller") dx (TelF p))) := (Kp.of s3).upd
      have tup : ∀ {a xs}, SqT K (upd H2 p (.tup [.ref hw, .ref hs])) a xs → SqT K (upd (upd H2 p (.tup [.ref hw, .ref hs])) t (.ins (He.ga K "Teller") dx (TelF p))) a xs := fun {a xs} z => by
        rcases z with (z | ⟨o, z⟩) | z
        · exact .inl (.inl (by rw [upd_ne (ne_of z ht3 (by intro z; cases z))]; exact z))
        · exact .inl (.inr ⟨o, by rw [upd_ne (ne_of z ht3 (by intro z; cases z))]; exact z⟩)
        · exact .inr z
      obtain ⟨as, ha, hA⟩ := hS.same s3
      exact q _ hk ⟨dx, p, hw, hs, upd_same, tup (.inl (.inl upd_same)), tup (sqT_same s3 hW), as, tup ha, hA.imp fun _ _ z => tup z⟩
theorem C_weights : Cp P w K mg base (He.ga K "Teller") "weights" 1 (spProp K fun a _ => a) := by
  refine cp_of T d_Teller_weights n_Teller_weights rfl m_cls_Teller sc_Teller_weights ba_Teller_weights ?_ ?_
  · rintro vs H Q E ⟨t, dx, h, hw, hs, rfl, _⟩; rfl
  · rintro f cdv A outer s H vs Q E hr ⟨t, dx, h, hw, hs, rfl, ht, hh, q⟩
    refine ⟨_, (pss_one (ps_ret (pe_ix (ixT (K := K) rfl) (peF (K := K) rfl (pv 0) rfl) pe_int (fun _ _ => rfl)))), ?_⟩
    exact ⟨_, rfl, t, _, dx, _, _, rfl, ht, T.cls "Teller" m_cls_Teller, T.noat "Teller" "held" m_noat_Teller_held, telF_get h, h, _, _, _, rfl, rfl, hh, rfl, q⟩
theorem C_sayings : Cp P w K mg base (He.ga K "Teller") "sayings" 1 (spProp K fun _ b => b) := by
  refine cp_of T d_Teller_sayings n_Teller_sayings rfl m_cls_Teller sc_Teller_sayings ba_Teller_sayings ?_ ?_
  · rintro vs H Q E ⟨t, dx, h, hw, hs, rfl, _⟩; rfl
  · rintro f cdv A outer s H vs Q E hr ⟨t, dx, h, hw, hs, rfl, ht, hh, q⟩
    refine ⟨_, (pss_one (ps_ret (pe_ix (ixT (K := K) rfl) (peF (K := K) rfl (pv 0) rfl) pe_int (fun _ _ => rfl)))), ?_⟩
    exact ⟨_, rfl, t, _, dx, _, _, rfl, ht, T.cls "Teller" m_cls_Teller, T.noat "Teller" "held" m_noat_Teller_held, telF_get h, h, _, _, _, rfl, rfl, hh, rfl, q⟩
theorem C_said_in : Cm P w K mg base (He.ga K "Teller") "said_in" 1 ["self", "case"] (spSaid K) := by
  refine cm_of T d_Teller_said_in n_Teller_said_in rfl m_meth_Teller_said_in m_cls_Teller sc_Teller_said_in ba_Teller_said_in ?_ ?_
  · rintro vs H Q E ⟨t, ws, ss, k, rfl, _⟩; rfl
  · rintro f cdv A outer s H vs Q E hr ⟨t, ws, ss, k, rfl, ht, hm, q⟩
    refine ⟨_, (pss_one (ps_ret (pe_callTy (callTup (K := K) rfl) (by rfl) (T.free "tuple" m_free_tuple) bt_tuple (pa_cons (pe_lc (own := [("index", 2), ("cases", 3)]) (by rfl) sc_Teller_said_in.nd (piE (K := K) rfl (by rfl) (T.free "enumerate" m_free_enumerate) (pa_cons (pe_ix (ixT (K := K) rfl) (peF (K := K) rfl (pv 0) rfl) pe_int (fun _ _ => rfl)) pa_nil)) (blkOk_by (own := [("index", 2), ("cases", 3)]) (N := N_Teller_said_in) (sc := defScope s_Teller_said_in) (by decide +kernel)) (fun _ _ _ _ _ => pgT (K := K) (n := 2) rfl (by rfl) (pgs_cons (pg_name (i := 2) sc_Teller_said_in.nd rfl (Or.inl rfl)) (pgs_cons (pg_name (i := 3) sc_Teller_said_in.nd rfl (Or.inl rfl)) (pgs_nil)))) (fun _ _ _ _ _ => pts_one (pt_cmpR (opIn (K := K) rfl) (pv 1) (pv 3) (by rfl))) (fun _ _ _ _ _ => (pv 2))) pa_nil)))), ?_⟩
    obtain ⟨dx, h, hw, hs, h1, h2, h3, as, ha, hA⟩ := ht.ex
    have hlen : (as.map V.ref).length = ss.length := by rw [List.length_map, hA.len]
    refine ⟨_, rfl, t, _, dx, _, _, rfl, h1, T.cls "Teller" m_cls_Teller, T.noat "Teller" "held" m_noat_Teller_held, telF_get h, h, _, _, _, rfl, rfl, h2, rfl, hs, _, rfl, ha, fun D hD => ?_⟩
    refine lc_run (walk_enumT (K := K) (a := hs) (xs := as.map V.ref)) hD (fun i H acc => acc = ((List.range i).filter fun i => decide (k ∈ ss.getD i [])).map nV) (fun _ s1 => sqT_same s1 ha) (fun _ _ _ _ _ _ _ h => h) (fun _ _ => rfl) (by rw [hlen]; exact line_of (by omega)) ?_ ?_
    · rintro i x H1 H' acc kk kk0 hi s1 hacc hal rfl ⟨Tt, u, vv, rfl, hT, rfl, hu, hv⟩ hk hk0
      cases hu
      obtain ⟨z, hz, rfl⟩ := map_get hv
      rw [hlen] at hi
      have hcs : ss[i]? = some ss[i] := List.getElem?_eq_getElem hi
      have hg : ss.getD i [] = ss[i] := by rw [List.getD_eq_getElem?_getD, hcs]; rfl
      have s2 : Same H1 (upd H1 Tt (.tup [.int (i : Nat), .ref z])) := same_new hT
      have hzT := sqT_same (s1.trans s2) (hA.at_ i z _ hz hcs)
      have e := said_snoc ss k i
      refine ⟨Tt, _, rfl, .inl (.inl upd_same), rfl, _, _, rfl, _, _, rfl, rfl, rfl, _, rfl, _, rfl, z, _, rfl, .inr hzT, rfl, flat_nat _, _, rfl, ?_⟩
      show if inV (nV k) (ss[i].map nV) = true then _ else _
      rw [inV_nat]
      refine ite2 (fun c => ⟨_, rfl, hk _ _ s2 ?_⟩) (fun c => hk0 _ s2 ?_)
      · rw [e, hg, if_pos (of_decide_eq_true c), List.map_append]; rfl
      · rw [e, hg, if_neg (fun z => c (decide_eq_true z)), List.append_nil]
    · rintro H1 acc s1 hacc hal rfl
      refine ⟨D, _, rfl, .inl ⟨.inl (.inl hacc), fun p hp => ?_⟩⟩
      refine q p _ (same_newt s1 hp) ?_ (s1.free hp)
      rw [upd_same, hlen]; rfl
theorem C_check_teller : Cb P w K mg base "check_teller" 1 ["value"] (spCheckT K) := by
  refine cb_of T d_check_teller n_check_teller rfl m_glo_check_teller sc_check_teller ba_check_teller ?_ ?_
  · rintro vs H Q E ⟨t, ws, ss, rfl, _⟩; rfl
  · rintro f cdv A outer s H vs Q E hr ⟨t, ws, ss, rfl, ht, q⟩
    refine ⟨_, (pss_one (ps_if (pt_not (pt_val (pe_callB (callIsi (K := K) rfl) (by rfl) (T.free "isinstance" m_free_isinstance) bt_isinstance (pa_cons (pv 0) (pa_cons (pe_glob (v := .ref (He.ga K "Teller")) rfl (T.glo "Teller" m_glo_Teller) rfl) pa_nil)))))
      (pss_one (ps_never))
      pss_nil)), ?_⟩
    obtain ⟨dx, h, hw, hs, h1, h2, h3, h4⟩ := ht.ex
    refine ⟨_, rfl, _, _, _, _, true, rfl, .own _, .base (.ins h1 (T.cls "Teller" m_cls_Teller) T.ca T.cn T.ct T.cm), ?_, true, rfl, iteF q⟩
    unfold PySem.W.kitOne
    rw [if_pos (by simp)]
end
end Kg

set_option maxHeartbeats 4000000
/-! The walk: rows, the table. -/
namespace Kg
open PySem PySem.Spec PyProof.Rows L2 Mi
/-! ### rows -/
def RowAt (K : PySem.W.Frag) (H : Hp) (l : Addr) (qs : List Rat) : Prop := ∃ as : List Addr, H l = some (.lst (as.map V.ref)) ∧ AllAt (FrAt K H) as qs
theorem RowAt.same {K : PySem.W.Frag} {H H' : Hp} {l : Addr} {qs : List Rat} (e : Same H H') (h : RowAt K H l qs) : RowAt K H' l qs := by
  obtain ⟨as, h1, h2⟩ := h
  exact ⟨as, e _ _ h1, h2.imp fun _ _ z => z.same e⟩
/-- what may be written stands at v -/
def Wr (H : Hp) (v : Addr) : Prop := (∃ ys, H v = some (.lst ys)) ∨ ∃ C dx fs, H v = some (.ins C dx fs)
theorem Wr.tup {H : Hp} {v a : Addr} {xs : List V} (w : Wr H v) (h : H a = some (.tup xs)) : a ≠ v := by
  rcases w with ⟨ys, e⟩ | ⟨C, dx, fs, e⟩ <;> exact ne_of h e (by intro z; cases z)
theorem Wr.frz {H : Hp} {v a : Addr} {o : Obj} {u : HO} (w : Wr H v) (h : H a = some (.frz o u)) : a ≠ v := by
  rcases w with ⟨ys, e⟩ | ⟨C, dx, fs, e⟩ <;> exact ne_of h e (by intro z; cases z)
theorem sqT_wr {K : PySem.W.Frag} {H H' : Hp} {v a : Addr} {xs : List V} (w : Wr H v) (e : Kp v H H') (h : SqT K H a xs) : SqT K H' a xs := by
  rcases h with (h | ⟨o, h⟩) | h
  · exact .inl (.inl (e _ _ h (w.tup h)))
  · exact .inl (.inr ⟨o, e _ _ h (w.frz h)⟩)
  · exact .inr h
theorem RowAt.wr {K : PySem.W.Frag} {H H' : Hp} {v l : Addr} {qs : List Rat} (w : Wr H v) (e : Kp v H H') (hl : l ≠ v) (h : RowAt K H l qs) : RowAt K H' l qs := by
  obtain ⟨as, h1, h2⟩ := h
  exact ⟨as, e _ _ h1 hl, h2.imp fun _ _ z => sqT_wr w e z⟩
theorem kp_upd {H : Hp} {v : Addr} {o : HO} : Kp v H (upd H v o) := fun b u q n => by rw [upd_ne n]; exact q
theorem frat_get {K : PySem.W.Frag} {H : Hp} {as : List Addr} {qs : List Rat} (h : AllAt (FrAt K H) as qs) {i : Nat} (hi : i < qs.length) : ∃ a, as[i]? = some a ∧ FrAt K H a (qs.getD i 0) := by
  obtain ⟨a, e, r⟩ := h.get (List.getElem?_eq_getElem hi)
  exact ⟨a, e, by rw [List.getD_eq_getElem?_getD, List.getElem?_eq_getElem hi]; exact r⟩
theorem ref_get {as : List Addr} {i : Nat} {a : Addr} (h : as[i]? = some a) : (as.map V.ref)[i]? = some (V.ref a) := by rw [List.getElem?_map, h]; rfl
theorem less_zero {row lead : List Rat} {c : Nat} (h0 : row.getD c 0 = 0) (hl : row.length = lead.length) : less row lead c = row := by
  unfold less
  rw [h0]
  apply List.ext_getElem?
  intro i
  rw [List.getElem?_zipWith]
  by_cases hi : i < row.length
  · rw [List.getElem?_eq_getElem hi, List.getElem?_eq_getElem (by omega)]
    simp
    grind
  · rw [List.getElem?_eq_none (by omega), List.getElem?_eq_none (by omega)]
theorem less_snoc {row lead : List Rat} {c i : Nat} (hi : i < row.length) (hl : row.length = lead.length) : (less row lead c).take (i + 1) = (less row lead c).take i ++ [row.getD i 0 - row.getD c 0 * lead.getD i 0] := by
  have e : (less row lead c)[i]? = some (row.getD i 0 - row.getD c 0 * lead.getD i 0) := by
    unfold less
    rw [List.getElem?_zipWith, List.getElem?_eq_getElem hi, List.getElem?_eq_getElem (by omega), List.getD_eq_getElem?_getD (i := i), List.getElem?_eq_getElem hi, List.getD_eq_getElem?_getD (l := lead), List.getElem?_eq_getElem (by omega)]
    first | rfl | done
  rw [List.take_succ, e]; rfl
theorem less_len {row lead : List Rat} {c : Nat} (hl : row.length = lead.length) : (less row lead c).length = row.length := by
  unfold less
  rw [List.length_zipWith, hl, Nat.min_self]
theorem num_ne {q : Rat} : (!decide (V.int q.num = V.int 0)) = decide (q ≠ 0) := by
  rw [Bool.eq_iff_iff]
  simp [Rat.num_eq_zero]
def AllSz (b : Nat) (qs : List Rat) : Prop := ∀ i, i < qs.length → Sz b (qs.getD i 0)
def spLessened (K : PySem.W.Frag) : Sp := fun vs H Q _ => ∃ (lr ll : Addr) (row lead : List Rat) (c : Nat), vs = [.ref lr, .ref ll, nV c] ∧ RowAt K H lr row ∧ RowAt K H ll lead ∧ row.length = lead.length ∧ row.length ≤ 100 ∧ c < row.length ∧ AllSz 64 row ∧ AllSz 64 lead ∧
  ∀ l H', Same H H' → RowAt K H' l (less row lead c) → (l = lr ∨ H l = none) → Q (.ref l) H'
section
variable {P : Program} {w : World} {K : PySem.W.Frag} {mg : Str → Option Value} {base : Heap} (T : Tx K mg)
include T
theorem C_lessened : Cb P w K mg base "lessened" 4 ["row", "lead", "column"] (spLessened K) := by
  refine cb_of T d_lessened n_lessened rfl m_glo_lessened sc_lessened ba_lessened ?_ ?_
  · rintro vs H Q E ⟨lr, ll, row, lead, c, rfl, _⟩; rfl
  · rintro f cdv A outer s H vs Q E hr ⟨lr, ll, row, lead, c, rfl, hR, hL, hlen, h100, hc, sR, sL, q⟩
    refine ⟨_, (pss_cons (ps_set (i := 3) sc_lessened.nd rfl (Or.inr rfl) (pe_ix (ixL (K := K) rfl) (pv 0) (pv 2) (fun _ _ => rfl)))
    (pss_one (ps_ret (pe_ifExp (pt_cmpR op_ne (pe_ix (ixT (K := K) rfl) (pv 3) pe_int (fun _ _ => rfl)) pe_int (nomark _)) (pe_lc (own := [("value", 4), ("other", 5)]) (by rfl) sc_lessened.nd (pi_zip (by rfl) (T.free "zip" m_free_zip) (pa_cons (pv 0) (pa_cons (pv 1) pa_nil))) (blkOk_by (own := [("value", 4), ("other", 5)]) (N := N_lessened) (sc := defScope s_lessened) (by decide +kernel)) (fun _ _ _ _ _ => pgT (K := K) (n := 2) rfl (by rfl) (pgs_cons (pg_name (i := 4) sc_lessened.nd rfl (Or.inl rfl)) (pgs_cons (pg_name (i := 5) sc_lessened.nd rfl (Or.inl rfl)) (pgs_nil)))) (fun _ _ _ _ _ => pts_nil) (fun _ _ _ _ _ => (pe_cb (C_minus T) (hr.mono (by decide)) (by rfl) (pa_cons (pv 4) (pa_cons (pe_cb (C_times T) (hr.mono (by decide)) (by rfl) (pa_cons (pv 3) (pa_cons (pv 5) pa_nil))) pa_nil))))) (pv 0))))), ?_⟩
    obtain ⟨as, ha, hA⟩ := id hR
    obtain ⟨bs, hb, hB⟩ := id hL
    obtain ⟨ac, hac, hFc⟩ := frat_get hA hc
    have la : (as.map V.ref).length = row.length := by rw [List.length_map, hA.len]
    have lb : (bs.map V.ref).length = row.length := by rw [List.length_map, hB.len, hlen]
    refine ⟨_, rfl, _, rfl, lr, _, _, _, rfl, rfl, .inl (.inl ha), atI_nat (ref_get hac), _, rfl, ac, _, _, _, rfl, rfl, hFc, rfl, rfl, _, rfl, ?_⟩
    rw [num_ne]
    by_cases h0 : row.getD c 0 = 0
    · rw [decide_eq_false (fun z => z h0)]
      refine iteF ⟨_, rfl, q lr H (Same.refl _) ?_ (.inl rfl)⟩
      rw [less_zero h0 hlen]
      exact hR
    · rw [decide_eq_true h0]
      refine iteT ⟨_, rfl, _, rfl, lr, ll, _, _, rfl, .inl (.inl ha), .inl (.inl hb), fun D hD => ?_⟩
      refine lc_run (walk_zip (K := K) (a := lr) (b := ll) (xs := as.map V.ref) (ys := bs.map V.ref) (n := row.length) (by rw [la, lb, Nat.min_self])) hD (fun i H acc => ∃ cs : List Addr, acc = cs.map V.ref ∧ AllAt (FrAt K H) cs ((less row lead c).take i))
        (fun H1 s1 => ⟨.inl (.inl (s1 _ _ ha)), .inl (.inl (s1 _ _ hb))⟩) ?_ (fun _ _ => ⟨[], rfl, by rw [List.take_zero]; exact AllAt.nil⟩) (line_of (by omega)) ?_ ?_
      · rintro i H1 H2 acc ys hy hk ⟨cs, e, hC⟩
        exact ⟨cs, e, hC.imp fun _ _ z => sqT_kp hk hy z⟩
      · rintro i x H1 H' acc k k0 hi s1 hacc hal ⟨cs, rfl, hC⟩ ⟨Tt, u, v, rfl, hT, rfl, hu, hv⟩ hk _
        obtain ⟨a1, ha1, rfl⟩ := map_get hu
        obtain ⟨b1, hb1, rfl⟩ := map_get hv
        have s2 : Same H1 (upd H1 Tt (.tup [.ref a1, .ref b1])) := same_new hT
        have s02 := s1.trans s2
        have fa : FrAt K H a1 (row.getD i 0) := by
          obtain ⟨a', e1, f1⟩ := frat_get hA hi
          rw [ha1] at e1; cases e1; exact f1
        have fb : FrAt K H b1 (lead.getD i 0) := by
          obtain ⟨b', e1, f1⟩ := frat_get hB (i := i) (by omega)
          rw [hb1] at e1; cases e1; exact f1
        have szc := sR c hc
        have szi := sR i hi
        have szl := sL i (by omega)
        refine ⟨Tt, _, rfl, .inl (.inl upd_same), rfl, _, _, rfl, _, _, rfl, rfl, rfl, _, rfl, _, rfl, _, rfl, ac, b1, _, _, rfl, hFc.same s02, fb.same s02, szc.mono (by decide), szl.mono (by decide), trivial, fun p H3 hp s3 fp => ?_⟩
        refine ⟨a1, p, _, _, rfl, (fa.same s02).same s3, fp, szi.mono (by decide), (sz_mul szc szl).mono (by decide), trivial, fun p2 H4 hp2 s4 fp2 => ?_⟩
        refine hk _ _ (s2.trans (s3.trans s4)) ⟨cs ++ [p2], by rw [List.map_append]; rfl, ?_⟩
        rw [less_snoc hi hlen]
        exact (hC.imp fun _ _ z => z.same (s2.trans (s3.trans s4))).snoc fp2
      · rintro H1 acc s1 hacc hal ⟨cs, rfl, hC⟩
        rw [← less_len (row := row) (lead := lead) (c := c) hlen, List.take_length] at hC
        exact q D H1 s1 ⟨cs, hacc, hC⟩ (.inr hD)
end
end Kg

set_option maxHeartbeats 4000000
/-! The walk: the table made, its column, its row. -/
namespace Kg
open PySem PySem.Spec PyProof.Rows L2 Mi
/-! ### the table in the heap -/
def TabG (many : Nat) (lr : Addr) : List (Str × V) := putF "rows" (.ref lr) (putF "many" (nV many) [])
def TabF (many : Nat) (lr ll lb : Addr) : List (Str × V) := putF "base" (.ref lb) (putF "last" (.ref ll) (TabG many lr))
theorem s_mr : ¬ ("many" : Str) = "rows" := by decide +kernel
theorem s_ml : ¬ ("many" : Str) = "last" := by decide +kernel
theorem s_mb : ¬ ("many" : Str) = "base" := by decide +kernel
theorem s_rl : ¬ ("rows" : Str) = "last" := by decide +kernel
theorem s_rb : ¬ ("rows" : Str) = "base" := by decide +kernel
theorem s_lb : ¬ ("last" : Str) = "base" := by decide +kernel
theorem tabG_many (many : Nat) (lr : Addr) : (TabG many lr).lookup ("many" : Str) = some (nV many) := by
  unfold TabG
  rw [lookup_putF, if_neg s_mr, lookup_putF, if_pos rfl]
theorem tabG_rows (many : Nat) (lr : Addr) : (TabG many lr).lookup ("rows" : Str) = some (.ref lr) := by
  unfold TabG
  rw [lookup_putF, if_pos rfl]
theorem tabF_many (many : Nat) (lr ll lb : Addr) : (TabF many lr ll lb).lookup ("many" : Str) = some (nV many) := by
  unfold TabF
  rw [lookup_putF, if_neg s_mb, lookup_putF, if_neg s_ml, tabG_many]
theorem tabF_rows (many : Nat) (lr ll lb : Addr) : (TabF many lr ll lb).lookup ("rows" : Str) = some (.ref lr) := by
  unfold TabF
  rw [lookup_putF, if_neg s_rb, lookup_putF, if_neg s_rl, tabG_rows]
theorem tabF_last (many : Nat) (lr ll lb : Addr) : (TabF many lr ll lb).lookup ("last" : Str) = some (.ref ll) := by
  unfold TabF
  rw [lookup_putF, if_neg s_lb, lookup_putF, if_pos rfl]
theorem tabF_base (many : Nat) (lr ll lb : Addr) : (TabF many lr ll lb).lookup ("base" : Str) = some (.ref lb) := by
  unfold TabF
  rw [lookup_putF, if_pos rfl]
theorem tabF_no (many : Nat) (lr ll lb : Addr) {m : Str} (h1 : ¬ m = "many") (h2 : ¬ m = "rows") (h3 : ¬ m = "last") (h4 : ¬ m = "base") : (TabF many lr ll lb).lookup m = none := by
  unfold TabF TabG
  rw [lookup_putF, if_neg h4, lookup_putF, if_neg h3, lookup_putF, if_neg h2, lookup_putF, if_neg h1]
  rfl
theorem tabG_eq (many : Nat) (lr : Addr) : TabG many lr = ([("many", nV many), ("rows", .ref lr)] : List (Str × V)) := by
  show (if ("many" : Str) = "rows" then [(("many" : Str), V.ref lr)] else (("many" : Str), nV many) :: putF "rows" (.ref lr) []) = _
  rw [if_neg s_mr]
  rfl
theorem tabF_eq (many : Nat) (lr ll lb : Addr) : TabF many lr ll lb = ([("many", nV many), ("rows", .ref lr), ("last", .ref ll), ("base", .ref lb)] : List (Str × V)) := by
  have e1 : putF "last" (.ref ll) (TabG many lr) = ([("many", nV many), ("rows", .ref lr), ("last", .ref ll)] : List (Str × V)) := by
    rw [tabG_eq]
    show (if ("many" : Str) = "last" then _ else (("many" : Str), nV many) :: (if ("rows" : Str) = "last" then _ else (("rows" : Str), V.ref lr) :: putF "last" (.ref ll) [])) = _
    rw [if_neg s_ml, if_neg s_rl]
    rfl
  unfold TabF
  rw [e1]
  show (if ("many" : Str) = "base" then _ else (("many" : Str), nV many) :: (if ("rows" : Str) = "base" then _ else (("rows" : Str), V.ref lr) :: (if ("last" : Str) = "base" then _ else (("last" : Str), V.ref ll) :: putF "base" (.ref lb) []))) = _
  rw [if_neg s_mb, if_neg s_rb, if_neg s_lb]
  rfl
theorem tabF_put (many : Nat) (lr ll lb l2 : Addr) : putF "last" (.ref l2) (TabF many lr ll lb) = TabF many lr l2 lb := by
  rw [tabF_eq, tabF_eq]
  show (if ("many" : Str) = "last" then _ else (("many" : Str), nV many) :: (if ("rows" : Str) = "last" then _ else (("rows" : Str), V.ref lr) :: (if ("last" : Str) = "last" then (("last" : Str), V.ref l2) :: ([("base", .ref lb)] : List (Str × V)) else _))) = _
  rw [if_neg s_ml, if_neg s_rl, if_pos rfl]
theorem tabF_len (many : Nat) (lr ll lb : Addr) : (TabF many lr ll lb).length < 1000 := by
  rw [tabF_eq]
  show 4 < 1000
  decide
structure TabI (K : PySem.W.Frag) (H0 H : Hp) (t dx lr ll lb : Addr) (rs : List Addr) (many : Nat) (T : Tb) : Prop where
  ob : H t = some (.ins (He.ga K "Table") dx (TabF many lr ll lb))
  rw_ : H lr = some (.lst (rs.map V.ref))
  rows : AllAt (RowAt K H) rs T.rows
  last : RowAt K H ll T.last
  base : H lb = some (.lst (T.base.map nV))
  n1 : lr ≠ lb
  n2 : ll ≠ lr
  n3 : ll ≠ lb
  n4 : lr ∉ rs
  n5 : lb ∉ rs
  old : Same H0 H
  f1 : H0 t = none
  f2 : H0 lr = none
  f3 : H0 lb = none
def TabAt (K : PySem.W.Frag) (H0 H : Hp) (t : Addr) (many : Nat) (T : Tb) : Prop := ∃ dx lr ll lb rs, TabI K H0 H t dx lr ll lb rs many T
theorem TabI.same {K : PySem.W.Frag} {H0 H H' : Hp} {t dx lr ll lb : Addr} {rs : List Addr} {many : Nat} {T : Tb} (x : TabI K H0 H t dx lr ll lb rs many T) (e : Same H H') : TabI K H0 H' t dx lr ll lb rs many T where
  ob := e _ _ x.ob
  rw_ := e _ _ x.rw_
  rows := x.rows.imp fun _ _ z => z.same e
  last := x.last.same e
  base := e _ _ x.base
  n1 := x.n1
  n2 := x.n2
  n3 := x.n3
  n4 := x.n4
  n5 := x.n5
  old := x.old.trans e
  f1 := x.f1
  f2 := x.f2
  f3 := x.f3
theorem TabI.get {K : PySem.W.Frag} {H0 H : Hp} {t dx lr ll lb : Addr} {rs : List Addr} {many : Nat} {T : Tb} (x : TabI K H0 H t dx lr ll lb rs many T) {i : Nat} (hi : i < T.rows.length) : ∃ l, rs[i]? = some l ∧ RowAt K H l (T.rows.getD i []) := by
  obtain ⟨a, e, r⟩ := x.rows.get (List.getElem?_eq_getElem hi)
  exact ⟨a, e, by rw [List.getD_eq_getElem?_getD, List.getElem?_eq_getElem hi]; exact r⟩
/-! ### numbers -/
theorem num_neg {q : Rat} : decide (q.num < 0) = decide (q < 0) := by
  rw [Bool.eq_iff_iff, decide_eq_true_iff, decide_eq_true_iff]
  have := Rat.lt_iff q 0
  simp at this
  exact this.symm
theorem num_pos {q : Rat} : decide (0 < q.num) = decide (0 < q) := by
  rw [Bool.eq_iff_iff, decide_eq_true_iff, decide_eq_true_iff]
  have := Rat.lt_iff 0 q
  simp at this
  exact this.symm
theorem atI_end {α : Type} {xs : List α} {v : α} (h : xs[xs.length - 1]? = some v) : atI xs (-1) = some v := by
  have hp : 0 < xs.length := by
    have := (List.getElem?_eq_some_iff.mp h).1
    omega
  unfold atI ixN
  rw [if_neg (by omega), if_pos (by omega)]
  show xs[((-1 : Int) + (xs.length : Int)).toNat]? = some v
  rw [show ((-1 : Int) + (xs.length : Int)).toNat = xs.length - 1 by omega]
  exact h
def colV : Option Nat → V
  | none => .non
  | some s => nV s
theorem col_some {last : List Rat} {i : Nat} (hi : i < last.length - 1) (h : last.getD i 0 < 0) (no : ∀ j, j < i → ¬ last.getD j 0 < 0) : colOf last = some i := by
  unfold colOf
  rw [List.find?_range_eq_some]
  exact ⟨decide_eq_true h, List.mem_range.mpr hi, fun j hj => by rw [decide_eq_false (no j hj)]; rfl⟩
theorem col_none {last : List Rat} (no : ∀ j, j < last.length - 1 → ¬ last.getD j 0 < 0) : colOf last = none := by
  unfold colOf
  rw [List.find?_eq_none]
  intro j hj
  rw [decide_eq_false (no j (List.mem_range.mp hj))]
  decide
theorem sz_div {a b : Nat} {p q : Rat} (hp : Sz a p) (hq : Sz b q) (q0 : 0 < q) : Sz (a + b) (p / q) := by
  have qn : 0 < q.num := of_decide_eq_true (num_pos.trans (decide_eq_true q0))
  have h0 : (0 : Int) < (p.den : Nat) * q.num := Int.mul_pos (den_pos p) qn
  rw [← over_div p q q0]
  have e := divInt_parts (a := p.num * (q.den : Nat)) h0
  constructor
  · rw [e.1]
    exact Nat.lt_of_le_of_lt (Int.natAbs_ediv_le_natAbs _ _) (natAbs_lt_mul hp.num (sz_nat hq))
  · have : ((Rat.divInt (p.num * (q.den : Nat)) ((p.den : Nat) * q.num)).den : Int).natAbs < 2 ^ (a + b) := by
      rw [e.2]
      exact Nat.lt_of_le_of_lt (Int.natAbs_ediv_le_natAbs _ _) (natAbs_lt_mul (sz_nat hp) hq.num)
    simpa using this
theorem frat_num {K : PySem.W.Frag} {H : Hp} : ∀ {p q : Rat}, PyData.eqv (.tuple [.int p.num, .int (p.den : Nat)]) (.tuple [.int q.num, .int (q.den : Nat)]) = decide (p = q) := by
  intro p q
  have e : PyData.eqv (.tuple [.int p.num, .int (p.den : Nat)]) (.tuple [.int q.num, .int (q.den : Nat)]) = ((p.num == q.num) && (((p.den : Int) == (q.den : Int)) && true)) := by
    simp only [PyData.eqv, PyData.eqvAll]
  rw [e, Bool.eq_iff_iff, decide_eq_true_iff]
  simp only [Bool.and_eq_true, beq_iff_eq, and_true]
  constructor
  · rintro ⟨h1, h2⟩
    exact Rat.ext h1 (by omega)
  · rintro rfl
    exact ⟨rfl, rfl⟩
theorem frD {K : PySem.W.Frag} {H : Hp} {a : Addr} {q : Rat} (h : FrAt K H a q) : Dp K H (.ref a) (.tuple [.int q.num, .int (q.den : Nat)]) := .tup h (.cons (.int _) (.cons (.int _) .nil))
theorem frSh (q : Rat) : SeqAt.shaped (.tuple [.int q.num, .int (q.den : Nat)]) = true := by rfl
/-! ### promises -/
def spCol (K : PySem.W.Frag) : Sp := fun vs H Q _ => ∃ (t : Addr) (H0 : Hp) (many : Nat) (T : Tb), vs = [.ref t] ∧ TabAt K H0 H t many T ∧ T.last.length ≤ 100 ∧ 1 ≤ T.last.length ∧ Q (colV (colOf T.last)) H
def FndV (K : PySem.W.Frag) (H : Hp) : V → Fnd → Prop
  | v, none => v = .non
  | v, some (i, q, b) => ∃ a kt qa, v = .ref a ∧ SqT K H a [nV i, .ref kt] ∧ SqT K H kt [.ref qa, nV b] ∧ FrAt K H qa q ∧ Sz 128 q
theorem FndV.same {K : PySem.W.Frag} {H H' : Hp} (e : Same H H') : ∀ {v : V} {f : Fnd}, FndV K H v f → FndV K H' v f
  | _, none, h => h
  | _, some (_, _, _), ⟨a, kt, qa, h1, h2, h3, h4, h5⟩ => ⟨a, kt, qa, h1, sqT_same e h2, sqT_same e h3, h4.same e, h5⟩
def spRow (K : PySem.W.Frag) : Sp := fun vs H Q _ => ∃ (t : Addr) (H0 : Hp) (many m n : Nat) (T : Tb) (c r b : Nat) (q : Rat), vs = [.ref t, nV c] ∧ TabAt K H0 H t many T ∧ Wf m n T ∧ c < n + 1 ∧ m ≤ 100 ∧ n < 100 ∧ (∀ i j, i < m → j < n + 1 → Sz 64 (ent T i j)) ∧
  pick T c m = some (r, q, b) ∧ ∀ H', Same H H' → Q (nV r) H'
def spTabInit (K : PySem.W.Frag) : Sp := fun vs H Q _ => ∃ (t tl dx : Addr) (ws : List Int) (ss : List (List Nat)) (H0 : Hp), vs = [.ref t, .ref tl] ∧ H t = some (.ins (He.ga K "Table") dx []) ∧ TelAt K H0 tl ws ss ∧ Val ws ss ∧ Same H0 H ∧ H0 t = none ∧
  ∀ H', TabAt K H0 H' t ws.length (init ws ss) → Q .non H'
def cAd (K : PySem.W.Frag) (b : Bool) : Addr := if b then He.ga K "WHOLE" else He.ga K "NONE"
section
variable {P : Program} {w : World} {K : PySem.W.Frag} {mg : Str → Option Value} {base : Heap} (T : Tx K mg)
theorem cAd_fr (T : Tx K mg) (H : Hp) (b : Bool) : FrAt K H (cAd K b) (b01 b) := by
  cases b
  · exact T.NONE H
  · exact T.WHOLE H
include T
theorem C_column : Cm P w K mg base (He.ga K "Table") "column" 1 ["self"] (spCol K) := by
  refine cm_of T d_Table_column n_Table_column rfl m_meth_Table_column m_cls_Table sc_Table_column ba_Table_column ?_ ?_
  · rintro vs H Q E ⟨t, H0, many, T', rfl, _⟩; rfl
  · rintro f cdv A outer s H vs Q E hr ⟨t, H0, many, T', rfl, ⟨dx, lr, ll, lb, rs, x⟩, h100, h1, q⟩
    refine ⟨_, (pss_cons (ps_for PassesOwn.never rfl (pi_range1 (by rfl) (T.free "range" m_free_range) (pa_cons (pe_op op_sub (pe_callB (callLen (K := K) rfl) (by rfl) (T.free "len" m_free_len) bt_len (pa_cons (peF (K := K) rfl (pv 0) rfl) pa_nil)) pe_int) pa_nil)) (pg_name (i := 1) sc_Table_column.nd rfl (Or.inl rfl))
      (pss_one (ps_if (pt_cmpR op_lt (pe_ix (ixT (K := K) rfl) (pe_ix (ixL (K := K) rfl) (peF (K := K) rfl (pv 0) rfl) (pv 1) (fun _ _ => rfl)) pe_int (fun _ _ => rfl)) pe_int (nomark _))
        (pss_one (ps_ret (pv 1)))
        pss_nil)))
    (pss_one (ps_ret pe_non))), ?_⟩
    obtain ⟨as, ha, hA⟩ := x.last
    have la : (as.map V.ref).length = T'.last.length := by rw [List.length_map, hA.len]
    refine ⟨_, rfl, t, _, dx, _, _, rfl, x.ob, T.cls "Table" m_cls_Table, T.noat "Table" "last" m_noat_Table_last, tabF_last _ _ _ _, ll, _, rfl, .inl (.inl (.inl ha)), _, _, rfl, rfl, _, rfl, ?_, ?_, ?_⟩
    · rw [la]; omega
    · rw [la]; omega
    rw [la]
    refine for_range (lo := 0) (n := ((T'.last.length : Int) - 1).toNat) (fun i σ H1 => H1 = H ∧ (∃ y, σ = [some (.ref t), y]) ∧ ∀ j, j < i → ¬ T'.last.getD j 0 < 0) ⟨rfl, ⟨none, rfl⟩, fun j hj => by omega⟩ ?_ ?_
    · rintro i σ H1 hi ⟨eh, ⟨y, rfl⟩, no⟩
      obtain rfl : H = H1 := eh.symm
      obtain ⟨a, e1, fa⟩ := frat_get hA (i := i) (by omega)
      refine ⟨_, rfl, t, _, dx, _, _, rfl, x.ob, T.cls "Table" m_cls_Table, T.noat "Table" "last" m_noat_Table_last, tabF_last _ _ _ _, _, rfl, ll, _, _, _, rfl, rfl, .inl (.inl ha), ?_, a, _, _, _, rfl, rfl, fa, rfl, _, _, rfl, rfl, _, rfl, ?_⟩
      · rw [show (0 : Int) + (i : Int) = ((i : Nat) : Int) by omega]
        exact atI_nat (ref_get e1)
      · rw [num_neg]
        refine ite2 (fun c => ?_) (fun c => ?_)
        · rw [col_some (by omega) (of_decide_eq_true c) no] at q
          refine ⟨_, rfl, ?_⟩
          show Q (.int (0 + (i : Int))) H
          rw [Int.zero_add]
          exact q
        · refine ⟨rfl, ⟨_, rfl⟩, fun j hj => ?_⟩
          by_cases e : j = i
          · rw [e]; exact fun z => c (decide_eq_true z)
          · exact no j (by omega)
    · rintro σ H1 ⟨eh, ⟨y, rfl⟩, no⟩
      obtain rfl : H = H1 := eh.symm
      rw [col_none (fun j hj => no j (by omega))] at q
      exact q
theorem C_row : Cm P w K mg base (He.ga K "Table") "row" 4 ["self", "column"] (spRow K) := by
  refine cm_of T d_Table_row n_Table_row rfl m_meth_Table_row m_cls_Table sc_Table_row ba_Table_row ?_ ?_
  · rintro vs H Q E ⟨t, H0, many, m, n, T', c, r, b, q0, rfl, _⟩; rfl
  · rintro f cdv A outer s H vs Q E hr ⟨t, H0, many, m, n, T', c, r, b, q0, rfl, ⟨dx, lr, ll, lb, rs, x⟩, W, hc, hm, hn, hsz, hp, q⟩
    refine ⟨_, (pss_cons (ps_set (i := 2) sc_Table_row.nd rfl (Or.inl rfl) pe_non)
    (pss_cons (ps_for PassesOwn.never rfl (piEL (K := K) rfl (by rfl) (T.free "enumerate" m_free_enumerate) (pa_cons (peF (K := K) rfl (pv 0) rfl) pa_nil)) (pgT (K := K) (n := 2) rfl (by rfl) (pgs_cons (pg_name (i := 3) sc_Table_row.nd rfl (Or.inl rfl)) (pgs_cons (pg_name (i := 4) sc_Table_row.nd rfl (Or.inl rfl)) (pgs_nil))))
      (pss_one (ps_if (pt_cmpR op_gt (pe_ix (ixT (K := K) rfl) (pe_ix (ixL (K := K) rfl) (pv 4) (pv 1) (fun _ _ => rfl)) pe_int (fun _ _ => rfl)) pe_int (nomark _))
        (pss_cons (ps_set (i := 5) sc_Table_row.nd rfl (Or.inl rfl) (pe_tup (pa_cons (pe_cb (C_over T) (hr.mono (by decide)) (by rfl) (pa_cons (pe_ix (ixL (K := K) rfl) (pv 4) (pe_un un_neg pe_int) (fun _ _ => rfl)) (pa_cons (pe_ix (ixL (K := K) rfl) (pv 4) (pv 1) (fun _ _ => rfl)) pa_nil))) (pa_cons (pe_ix (ixL (K := K) rfl) (peF (K := K) rfl (pv 0) rfl) (pv 3) (fun _ _ => rfl)) pa_nil))))
        (pss_one (ps_if (PW.pt (pw_or (pt_cmpR op_isN (pv 2) pe_non (nomark _)) (pw_or (pt_val (pe_cb (C_is_less T) (hr.mono (by decide)) (by rfl) (pa_cons (pe_ix (ixT (K := K) rfl) (pv 5) pe_int (fun _ _ => rfl)) (pa_cons (pe_ix (ixT (K := K) rfl) (pe_ix (ixT (K := K) rfl) (pv 2) pe_int (fun _ _ => rfl)) pe_int (fun _ _ => rfl)) pa_nil)))) (pw_or1 (PW.pt (pw_and (pt_cmpR (opEqD (K := K) rfl hr.units) (pe_ix (ixT (K := K) rfl) (pv 5) pe_int (fun _ _ => rfl)) (pe_ix (ixT (K := K) rfl) (pe_ix (ixT (K := K) rfl) (pv 2) pe_int (fun _ _ => rfl)) pe_int (fun _ _ => rfl)) (nomark _)) (pw_and1 (pt_cmpR op_lt (pe_ix (ixT (K := K) rfl) (pv 5) pe_int (fun _ _ => rfl)) (pe_ix (ixT (K := K) rfl) (pe_ix (ixT (K := K) rfl) (pv 2) pe_int (fun _ _ => rfl)) pe_int (fun _ _ => rfl)) (nomark _)))))))))
          (pss_one (ps_set (i := 2) sc_Table_row.nd rfl (Or.inl rfl) (pe_tup (pa_cons (pv 3) (pa_cons (pv 5) pa_nil)))))
          pss_nil)))
        pss_nil)))
    (pss_one (ps_ret (pe_ix (ixT (K := K) rfl) (pv 2) pe_int (fun _ _ => rfl)))))), ?_⟩
    have lrs : (rs.map V.ref).length = m := by rw [List.length_map, x.rows.len, W.rows]
    refine ⟨_, rfl, t, _, dx, _, _, rfl, x.ob, T.cls "Table" m_cls_Table, T.noat "Table" "rows" m_noat_Table_rows, tabF_rows _ _ _ _, lr, _, rfl, .inl (.inl x.rw_), ?_⟩
    refine for_it (walk_enum (K := K) (a := lr) (xs := rs.map V.ref)) (fun i σ H1 => ∃ fv y z k, σ = [some (.ref t), some (nV c), some fv, y, z, k] ∧ Same H H1 ∧ FndV K H1 fv (pick T' c i)) ⟨.non, none, none, none, rfl, Same.refl _, rfl⟩ (fun i σ H1 _ ⟨_, _, _, _, _, s1, _⟩ => .inl (.inl (s1 _ _ x.rw_))) ?_ ?_
    · rintro i xx σ H1 H' hi ⟨fv, y0, z0, k0, rfl, s1, hf⟩ ⟨Tt, u, v, rfl, hT, rfl, hu, hv⟩
      cases hu
      obtain ⟨l, hl, rfl⟩ := map_get hv
      rw [lrs] at hi
      have s2 : Same H1 (upd H1 Tt (.tup [.int (i : Nat), .ref l])) := same_new hT
      generalize hH2 : upd H1 Tt (.tup [.int (i : Nat), .ref l]) = H2 at s2
      have hTt : H2 Tt = some (.tup [.int (i : Nat), .ref l]) := by rw [← hH2, upd_same]
      have x2 := x.same (s1.trans s2)
      have hf2 := hf.same s2
      obtain ⟨l', e1, hR⟩ := x2.get (i := i) (by rw [W.rows]; exact hi)
      rw [hl] at e1
      cases e1
      obtain ⟨as, ha, hA⟩ := hR
      have len := W.row i hi
      have la : (as.map V.ref).length = n + 1 := by rw [List.length_map, hA.len, len]
      obtain ⟨ac, eac, fac⟩ := frat_get hA (i := c) (by rw [len]; exact hc)
      obtain ⟨an, ean, fan⟩ := frat_get hA (i := n) (by rw [len]; omega)
      have szc := hsz i c hi hc
      have szn := hsz i n hi (by omega)
      refine ⟨Tt, _, rfl, .inl (.inl hTt), rfl, _, _, rfl, _, _, rfl, rfl, _, rfl, _, rfl, l, _, _, _, rfl, rfl, .inl (.inl ha), atI_nat (ref_get eac), ac, _, _, _, rfl, rfl, fac, rfl, _, _, rfl, rfl, _, rfl, ?_⟩
      rw [num_pos]
      have eT : (T'.rows.getD i []).getD c 0 = ent T' i c := rfl
      rw [eT] at fac ⊢
      refine ite2 (fun h0 => ?_) (fun h0 => ?_)
      · have p0 : 0 < ent T' i c := of_decide_eq_true h0
        have er : ratio T' i c = ent T' i n / ent T' i c := by
          unfold ratio
          rw [len]; rfl
        have szr : Sz 128 (ratio T' i c) := by rw [er]; exact sz_div szn szc p0
        have hb : (T'.base.map nV)[i]? = some (nV (T'.base.getD i 0)) := by
          have hib : i < T'.base.length := by rw [W.base]; exact hi
          rw [List.getElem?_map, List.getD_eq_getElem?_getD, List.getElem?_eq_getElem hib]; rfl
        refine ⟨_, rfl, _, rfl, l, _, _, _, rfl, rfl, .inl (.inl ha), atI_end (by rw [la, Nat.add_sub_cancel]; exact ref_get ean), _, rfl, _, rfl, l, _, _, _, rfl, rfl, .inl (.inl ha), atI_nat (ref_get eac), an, ac, _, _, rfl, fan, fac, szn.mono (by decide), szc.mono (by decide), p0, fun pq H3 hpq s3 fq0 => ?_⟩
        have fq : FrAt K H3 pq (ratio T' i c) := by rw [er]; exact fq0
        have x3 := x2.same s3
        have hf3 := hf2.same s3
        refine ⟨_, rfl, t, _, dx, _, _, rfl, x3.ob, T.cls "Table" m_cls_Table, T.noat "Table" "base" m_noat_Table_base, tabF_base _ _ _ _, _, rfl, lb, _, _, _, rfl, rfl, .inl (.inl x3.base), atI_nat hb, (by show 2 ≤ sizeLine; decide), fun pk hpk => ?_⟩
        have s4 := same_new (o := .tup [.ref pq, nV (T'.base.getD i 0)]) hpk
        generalize hH4 : upd H3 pk (.tup [.ref pq, nV (T'.base.getD i 0)]) = H4 at s4
        have hk : SqT K H4 pk [.ref pq, nV (T'.base.getD i 0)] := .inl (.inl (by rw [← hH4, upd_same]))
        have hf4 := hf3.same s4
        have fq4 := fq.same s4
        have s14 := s1.trans (s2.trans (s3.trans s4))
        have take : better (ratio T' i c) (T'.base.getD i 0) (pick T' c i) = true → pick T' c (i + 1) = some (i, ratio T' i c, T'.base.getD i 0) := fun hb => by
          rw [pick_succ]; unfold Mi.step; rw [if_pos p0, if_pos hb]
        have leave : better (ratio T' i c) (T'.base.getD i 0) (pick T' c i) = false → pick T' c (i + 1) = pick T' c i := fun hb => by
          rw [pick_succ]; unfold Mi.step; rw [if_pos p0, if_neg (by rw [hb]; decide)]
        -- found = (index, key)
        have fin : pick T' c (i + 1) = some (i, ratio T' i c, T'.base.getD i 0) → (2 : Nat) ≤ sizeLine ∧ ∀ p, H4 p = none → ∃ fv' y' z' k', ([some (.ref t), some (nV c), some fv, some (nV i), some (.ref l), some (.ref pk)] : L2.St).set 2 (some (.ref p)) = [some (.ref t), some (nV c), some fv', y', z', k'] ∧ Same H (upd H4 p (.tup [nV i, .ref pk])) ∧ FndV K (upd H4 p (.tup [nV i, .ref pk])) fv' (pick T' c (i + 1)) := fun e => by
          refine ⟨by decide, fun p hp => ⟨.ref p, _, _, _, rfl, same_newt s14 hp, ?_⟩⟩
          rw [e]
          have s5 := same_new (o := .tup [nV i, .ref pk]) hp
          exact ⟨p, pk, pq, rfl, .inl (.inl upd_same), sqT_same s5 hk, fq4.same s5, szr⟩
        cases hpi : pick T' c i with
        | none =>
          rw [hpi] at hf4 take
          obtain rfl : fv = .non := hf4
          refine ⟨_, rfl, rfl, true, rfl, iteT ⟨_, rfl, _, rfl, fin (take rfl)⟩⟩
        | some g =>
          obtain ⟨i0, q1, b1⟩ := g
          rw [hpi] at hf4 take leave
          obtain ⟨fa, kt, qa, rfl, g1, g2, g3, g4⟩ := hf4
          refine ⟨_, rfl, rfl, false, rfl, iteF ?_⟩
          refine ⟨_, rfl, pk, _, _, _, rfl, rfl, hk, rfl, _, rfl, fa, _, _, _, rfl, rfl, g1, rfl, kt, _, _, _, rfl, rfl, g2, rfl, pq, qa, _, _, rfl, fq4, g3, szr.mono (by decide), g4.mono (by decide), _, rfl, ?_⟩
          by_cases c1 : ratio T' i c < q1
          · rw [decide_eq_true c1]
            refine iteT ⟨_, rfl, _, rfl, fin (take ?_)⟩
            show (decide (ratio T' i c < q1) || (decide (ratio T' i c = q1) && decide (T'.base.getD i 0 < b1))) = true
            rw [decide_eq_true c1]; rfl
          · rw [decide_eq_false c1]
            refine iteF ⟨_, rfl, pk, _, _, _, rfl, rfl, hk, rfl, _, rfl, fa, _, _, _, rfl, rfl, g1, rfl, kt, _, _, _, rfl, rfl, g2, rfl, _, _, frD fq4, frD g3, frSh _, frSh _, _, rfl, ?_⟩
            rw [frat_num (K := K) (H := H)]
            by_cases c2 : ratio T' i c = q1
            · rw [decide_eq_true c2]
              refine iteT ⟨_, rfl, pk, _, _, _, rfl, rfl, hk, rfl, _, rfl, fa, _, _, _, rfl, rfl, g1, rfl, kt, _, _, _, rfl, rfl, g2, rfl, _, _, rfl, rfl, _, rfl, ?_⟩
              refine ite2 (fun c3 => ?_) (fun c3 => ?_)
              · have c4 : T'.base.getD i 0 < b1 := by have := of_decide_eq_true c3; omega
                refine ⟨_, rfl, _, rfl, fin (take ?_)⟩
                show (decide (ratio T' i c < q1) || (decide (ratio T' i c = q1) && decide (T'.base.getD i 0 < b1))) = true
                rw [decide_eq_false c1, decide_eq_true c2, decide_eq_true c4]; rfl
              · have c4 : ¬ T'.base.getD i 0 < b1 := fun z => c3 (decide_eq_true (by omega))
                refine ⟨_, _, _, _, rfl, s14, ?_⟩
                rw [leave (by show (decide (ratio T' i c < q1) || (decide (ratio T' i c = q1) && decide (T'.base.getD i 0 < b1))) = false; rw [decide_eq_false c1, decide_eq_true c2, decide_eq_false c4]; rfl)]
                exact ⟨fa, kt, qa, rfl, g1, g2, g3, g4⟩
            · rw [decide_eq_false c2]
              refine iteF ⟨_, _, _, _, rfl, s14, ?_⟩
              rw [leave (by show (decide (ratio T' i c < q1) || (decide (ratio T' i c = q1) && decide (T'.base.getD i 0 < b1))) = false; rw [decide_eq_false c1, decide_eq_false c2]; rfl)]
              exact ⟨fa, kt, qa, rfl, g1, g2, g3, g4⟩
      · refine ⟨_, _, _, _, rfl, s1.trans s2, ?_⟩
        rw [pick_succ]
        unfold Mi.step
        rw [if_neg (fun z => h0 (decide_eq_true z))]
        exact hf2
    · rintro σ H1 ⟨fv, y0, z0, k0, rfl, s1, hf⟩
      rw [lrs, hp] at hf
      obtain ⟨fa, kt, qa, rfl, g1, g2, g3, g4⟩ := hf
      exact ⟨_, rfl, fa, _, _, _, rfl, rfl, g1, rfl, q H1 s1⟩
end
end Kg

set_option maxHeartbeats 4000000
/-! The walk: the table made. -/
namespace Kg
open PySem PySem.Spec PyProof.Rows L2 Mi StX
theorem AllAt.app {α : Type} {R : Addr → α → Prop} {as bs : List Addr} {xs ys : List α} (h : AllAt R as xs) (g : AllAt R bs ys) : AllAt R (as ++ bs) (xs ++ ys) := by
  refine ⟨by simp [h.len, g.len], fun i b y e1 e2 => ?_⟩
  by_cases hi : i < as.length
  · rw [List.getElem?_append_left hi] at e1
    rw [List.getElem?_append_left (by rw [← h.len]; exact hi)] at e2
    exact h.at_ i b y e1 e2
  · rw [List.getElem?_append_right (by omega)] at e1
    rw [List.getElem?_append_right (by rw [← h.len]; omega), ← h.len] at e2
    exact g.at_ _ b y e1 e2
theorem AllAt.maps {α β : Type} {R : Addr → β → Prop} {f : α → Addr} {g : α → β} (h : ∀ x, R (f x) (g x)) (l : List α) : AllAt R (l.map f) (l.map g) := by
  refine ⟨by simp, fun i a x e1 e2 => ?_⟩
  obtain ⟨y, e3, rfl⟩ := map_get e1
  obtain ⟨z, e4, rfl⟩ := map_get e2
  rw [e3] at e4
  cases e4
  exact h y
def bits (many m i : Nat) (cs : List Nat) : List Bool := ((List.range many).map fun k => decide (k ∈ cs)) ++ ((List.range m).map fun o => decide (o = i)) ++ [true]
theorem row0_bits (many m i : Nat) (cs : List Nat) : row0 many m i cs = (bits many m i cs).map b01 := by
  unfold row0 bits
  rw [List.map_append, List.map_append, List.map_map, List.map_map]
  rfl
abbrev cV (K : PySem.W.Frag) (b : Bool) : V := .ref (cAd K b)
theorem range_snoc (f : Nat → Bool) (g : Bool → V) (i : Nat) : ((List.range i).map f).map g ++ [g (f i)] = ((List.range (i + 1)).map f).map g := by
  rw [List.range_succ, List.map_append, List.map_append]; rfl
theorem rep_none (K : PySem.W.Frag) (k : Nat) : (List.replicate k [V.ref (He.ga K "NONE")]).flatten = (List.replicate k (He.ga K "NONE")).map V.ref := by
  rw [List.map_replicate]
  simp
theorem range_snocV (f : Nat → V) (i : Nat) : (List.range i).map f ++ [f i] = (List.range (i + 1)).map f := by
  rw [List.range_succ, List.map_append]; rfl
theorem neg_fr {K : PySem.W.Frag} {H : Hp} {p : Addr} (w : Int) : FrAt K (upd H p (.tup [.int (-w), .int 1])) p ((-w : Int) : Rat) := .inl (.inl upd_same)
section
variable {P : Program} {w : World} {K : PySem.W.Frag} {mg : Str → Option Value} {base : Heap} (T : Tx K mg)
include T
theorem M_Table : Ck P w K mg base "Table" (He.ga K "Table") 3 ["self", "teller"] (spTabInit K) := by
  refine ck_of T d_Table_init n_Table_init rfl m_mkr_Table m_glo_Table sc_Table_init ba_Table_init ?_ ?_
  · rintro vs H Q E ⟨t, tl, dx, ws, ss, H0, rfl, _⟩; rfl
  · rintro f cdv A outer s H vs Q E hr ⟨t, tl, dx, ws, ss, H0, rfl, ht, hT0, v, sH, ft, q⟩
    refine ⟨_, (pss_cons (ps_fld (pv 0) (pe_callB (callLen (K := K) rfl) (by rfl) (T.free "len" m_free_len) bt_len (pa_cons (pe_cp (C_weights T) (hr.mono (by decide)) (pv 1) rfl) pa_nil)) rfl)
    (pss_cons (ps_fld (pv 0) (pe_lst pa_nil) rfl)
    (pss_cons (ps_for PassesOwn.never rfl (piE (K := K) rfl (by rfl) (T.free "enumerate" m_free_enumerate) (pa_cons (pe_cp (C_sayings T) (hr.mono (by decide)) (pv 1) rfl) pa_nil)) (pgT (K := K) (n := 2) rfl (by rfl) (pgs_cons (pg_name (i := 2) sc_Table_init.nd rfl (Or.inr rfl)) (pgs_cons (pg_name (i := 3) sc_Table_init.nd rfl (Or.inr rfl)) (pgs_nil))))
      (pss_cons (ps_setLc (i := 4) (own := [("case", 5)]) (by rfl) sc_Table_init.nd rfl rfl (sw_true rfl rfl rfl (by decide +kernel)) (pi_range1 (by rfl) (T.free "range" m_free_range) (pa_cons (peF (K := K) rfl (pv 0) rfl) pa_nil)) (blkOk_by (own := [("case", 5)]) (N := N_Table_init) (sc := defScope s_Table_init) (by decide +kernel)) (fun _ _ _ _ _ => pg_name (i := 5) sc_Table_init.nd rfl (Or.inl rfl)) (fun _ _ _ _ _ => pts_nil) (fun _ _ _ _ _ => (pe_ifExp (pt_cmpR (opIn (K := K) rfl) (pv 5) (pv 3) (by rfl)) (pe_glob (v := .ref (He.ga K "WHOLE")) rfl (T.glo "WHOLE" m_glo_WHOLE) rfl) (pe_glob (v := .ref (He.ga K "NONE")) rfl (T.glo "NONE" m_glo_NONE) rfl))))
      (pss_cons (ps_set (i := 4) sc_Table_init.nd rfl (Or.inl rfl) (pe_op op_cat (pv 4) (pe_lc (own := [("other", 7)]) (by rfl) sc_Table_init.nd (pi_range1 (by rfl) (T.free "range" m_free_range) (pa_cons (pe_callB (callLen (K := K) rfl) (by rfl) (T.free "len" m_free_len) bt_len (pa_cons (pe_cp (C_sayings T) (hr.mono (by decide)) (pv 1) rfl) pa_nil)) pa_nil)) (blkOk_by (own := [("other", 7)]) (N := N_Table_init) (sc := defScope s_Table_init) (by decide +kernel)) (fun _ _ _ _ _ => pg_name (i := 7) sc_Table_init.nd rfl (Or.inl rfl)) (fun _ _ _ _ _ => pts_nil) (fun _ _ _ _ _ => (pe_ifExp (pt_cmpR op_eq (pv 7) (pv 2) (nomark _)) (pe_glob (v := .ref (He.ga K "WHOLE")) rfl (T.glo "WHOLE" m_glo_WHOLE) rfl) (pe_glob (v := .ref (He.ga K "NONE")) rfl (T.glo "NONE" m_glo_NONE) rfl))))))
      (pss_one (ps_expr (pe_bm PySem.F.plainAttrs_list PySem.F.slot_list_append PySem.F.type_list_append mt_append (peF (K := K) rfl (pv 0) rfl) (pa_cons (pe_lst (pa_star (pv 4) (pa_cons (pe_glob (v := .ref (He.ga K "WHOLE")) rfl (T.glo "WHOLE" m_glo_WHOLE) rfl) pa_nil))) pa_nil)))))))
    (pss_cons (ps_fld (pv 0) (pe_op op_cat (pe_lc (own := [("weight", 6)]) (by rfl) sc_Table_init.nd (piT (K := K) rfl (pe_cp (C_weights T) (hr.mono (by decide)) (pv 1) rfl)) (blkOk_by (own := [("weight", 6)]) (N := N_Table_init) (sc := defScope s_Table_init) (by decide +kernel)) (fun _ _ _ _ _ => pg_name (i := 6) sc_Table_init.nd rfl (Or.inl rfl)) (fun _ _ _ _ _ => pts_nil) (fun _ _ _ _ _ => (pe_tup (pa_cons (pe_un un_neg (pv 6)) (pa_cons pe_int pa_nil))))) (pe_op op_rep (pe_lst (pa_cons (pe_glob (v := .ref (He.ga K "NONE")) rfl (T.glo "NONE" m_glo_NONE) rfl) pa_nil)) (pe_op op_add (pe_callB (callLen (K := K) rfl) (by rfl) (T.free "len" m_free_len) bt_len (pa_cons (pe_cp (C_sayings T) (hr.mono (by decide)) (pv 1) rfl) pa_nil)) pe_int))) rfl)
    (pss_one (ps_fld (pv 0) (pe_lc (own := [("index", 2)]) (by rfl) sc_Table_init.nd (pi_range1 (by rfl) (T.free "range" m_free_range) (pa_cons (pe_callB (callLen (K := K) rfl) (by rfl) (T.free "len" m_free_len) bt_len (pa_cons (pe_cp (C_sayings T) (hr.mono (by decide)) (pv 1) rfl) pa_nil)) pa_nil)) (blkOk_by (own := [("index", 2)]) (N := N_Table_init) (sc := defScope s_Table_init) (by decide +kernel)) (fun _ _ _ _ _ => pg_name (i := 2) sc_Table_init.nd rfl (Or.inl rfl)) (fun _ _ _ _ _ => pts_nil) (fun _ _ _ _ _ => (pe_op op_add (peF (K := K) rfl (pv 0) rfl) (pv 2)))) rfl)))))), ?_⟩
    have hn5 := v.n5
    have hm5 := v.m5
    have hlw : (ws.map V.int).length = ws.length := List.length_map _
    obtain ⟨dxt, h, hw, hs, g1, g2, g3, hS⟩ := hT0.ex
    obtain ⟨as, ha, hA⟩ := id hS
    have hls : (as.map V.ref).length = ss.length := by rw [List.length_map, hA.len]
    have cls := T.cls "Table" m_cls_Table
    -- self.many
    refine ⟨_, rfl, tl, dxt, _, rfl, sH _ _ g1, tl, dxt, h, hw, hs, rfl, sH _ _ g1, sqT_same sH g2, hw, _, rfl, .inr (sqT_same sH g3), _, rfl, t, _, dx, [], rfl, ht, cls, T.noat "Table" "many" m_noat_Table_many, (by show 0 < 1000; decide), ?_⟩
    rw [hlw]
    have sb : ∀ {H' : Hp} {o}, Same H0 H' → Same H0 (upd H' t o) := fun {H' o} e b u z => by rw [upd_ne (ne_of_none z ft)]; exact e b u z
    have s1 : Same H0 (upd H t (.ins (He.ga K "Table") dx (putF "many" (nV ws.length) []))) := sb sH
    have o1 : (upd H t (.ins (He.ga K "Table") dx (putF "many" (nV ws.length) []))) t = some (.ins (He.ga K "Table") dx (putF "many" (nV ws.length) [])) := upd_same
    generalize upd H t (.ins (He.ga K "Table") dx (putF "many" (nV ws.length) [])) = H1 at s1 o1 ⊢
    -- self.rows = []
    refine ⟨(by show 0 ≤ sizeLine; decide), fun lr hlr => ⟨_, rfl, t, _, dx, _, rfl, same_new hlr _ _ o1, cls, T.noat "Table" "rows" m_noat_Table_rows, (by show 1 < 1000; decide), ?_⟩⟩
    have f2 : H0 lr = none := s1.free hlr
    have ntl : t ≠ lr := ne_of_none o1 hlr
    have s2 : Same H0 (upd (upd H1 lr (.lst [])) t (.ins (He.ga K "Table") dx (TabG ws.length lr))) := sb (same_newt s1 hlr)
    have o2 : (upd (upd H1 lr (.lst [])) t (.ins (He.ga K "Table") dx (TabG ws.length lr))) t = some (.ins (He.ga K "Table") dx (TabG ws.length lr)) := upd_same
    have l2 : (upd (upd H1 lr (.lst [])) t (.ins (He.ga K "Table") dx (TabG ws.length lr))) lr = some (.lst []) := by rw [upd_ne ntl.symm, upd_same]
    show tSeq _ _ _ _ (upd (upd H1 lr (.lst [])) t (.ins (He.ga K "Table") dx (TabG ws.length lr)))
    generalize upd (upd H1 lr (.lst [])) t (.ins (He.ga K "Table") dx (TabG ws.length lr)) = H2 at s2 o2 l2 ⊢
    -- the rows
    refine ⟨_, rfl, tl, dxt, _, rfl, s2 _ _ g1, tl, dxt, h, hw, hs, rfl, s2 _ _ g1, sqT_same s2 g2, hs, _, rfl, sqT_same s2 ha, ?_⟩
    refine for_it (walk_enumT (K := K) (a := hs) (xs := as.map V.ref)) (fun i σ Hc => ∃ rs x y z, σ = [some (.ref t), some (.ref tl), x, y, z, none, none, none] ∧ Same H0 Hc ∧ Hc t = some (.ins (He.ga K "Table") dx (TabG ws.length lr)) ∧ Hc lr = some (.lst (rs.map V.ref)) ∧
      AllAt (RowAt K Hc) rs ((init ws ss).rows.take i) ∧ lr ∉ rs) ⟨[], none, none, none, rfl, s2, o2, l2, by rw [List.take_zero]; exact AllAt.nil, by simp⟩ (fun i σ Hc _ ⟨_, _, _, _, _, sc, _⟩ => sqT_same sc ha) ?_ ?_
    · rintro i xx σ Hc H' hi ⟨rs, x0, y0, z0, rfl, sc, oc, lc, hrs, hnl⟩ ⟨Tt, u, vv, rfl, hTt, rfl, hu, hv⟩
      cases hu
      obtain ⟨z, hz, rfl⟩ := map_get hv
      rw [hls] at hi
      have hcs : ss[i]? = some ss[i] := List.getElem?_eq_getElem hi
      have sT : Same Hc (upd Hc Tt (.tup [.int (i : Nat), .ref z])) := same_new hTt
      have hTt2 : (upd Hc Tt (.tup [.int (i : Nat), .ref z])) Tt = some (.tup [.int (i : Nat), .ref z]) := upd_same
      generalize upd Hc Tt (.tup [.int (i : Nat), .ref z]) = Hd at sT hTt2 ⊢
      have sd := sc.trans sT
      have od := sT _ _ oc
      have hzT : SqT K H0 z (ss[i].map nV) := hA.at_ i z _ hz hcs
      refine ⟨Tt, _, rfl, .inl (.inl hTt2), rfl, _, _, rfl, _, _, rfl, rfl, _, rfl, t, _, dx, _, _, rfl, od, cls, T.noat "Table" "many" m_noat_Table_many, tabG_many _ _, ws.length, rfl, by omega, by omega, fun D hD => ?_⟩
      refine lc_run (walk_range (lo := 0) (n := ((ws.length : Nat) : Int).toNat)) hD (fun i' _ acc => acc = ((List.range i').map fun k => decide (k ∈ ss[i])).map (cV K)) (fun _ _ => trivial) (fun _ _ _ _ _ _ _ h => h) (fun _ _ => rfl) (line_of (by omega)) ?_ ?_
      · rintro k xk Hq H'' acc kk kk0 hk se hacc hal rfl ⟨rfl, rfl⟩ hkk _
        refine ⟨rfl, _, rfl, _, rfl, z, _, rfl, .inr (sqT_same (sd.trans se) hzT), rfl, flat_nat _, _, rfl, ?_⟩
        show if inV (V.int (0 + (k : Int))) (ss[i].map nV) = true then _ else _
        rw [Int.zero_add, inV_nat]
        have e := range_snoc (fun k => decide (k ∈ ss[i])) (cV K) k
        refine ite2 (fun c => ?_) (fun c => ?_)
        · refine hkk _ _ (Same.refl _) ?_
          rw [← e, c]; rfl
        · refine hkk _ _ (Same.refl _) ?_
          rw [← e, show decide (k ∈ ss[i]) = false by simpa using c]; rfl
      · rintro Hq acc se hacc hal rfl
        have se0 := sd.trans se
        -- row + the second part
        refine ⟨_, rfl, _, rfl, tl, dxt, _, rfl, se0 _ _ g1, tl, dxt, h, hw, hs, rfl, se0 _ _ g1, sqT_same se0 g2, hs, _, rfl, .inr (sqT_same se0 ha), _, rfl, by rw [hls]; omega, by rw [hls]; omega, fun D2 hD2 => ?_⟩
        rw [hls]
        refine lc_run (walk_range (lo := 0) (n := ((ss.length : Nat) : Int).toNat)) hD2 (fun i' _ acc => acc = ((List.range i').map fun o => decide (o = i)).map (cV K)) (fun _ _ => trivial) (fun _ _ _ _ _ _ _ h => h) (fun _ _ => rfl) (line_of (by omega)) ?_ ?_
        · rintro k xk Hf H'' acc kk kk0 hk sf hacc2 hal2 rfl ⟨rfl, rfl⟩ hkk _
          refine ⟨rfl, _, rfl, _, rfl, rfl, _, rfl, ?_⟩
          have e0 : decide (V.int (0 + (k : Int)) = V.int (i : Int)) = decide (k = i) := by
            rw [Int.zero_add, Bool.eq_iff_iff, decide_eq_true_iff, decide_eq_true_iff]
            constructor
            · intro z; injection z with z; omega
            · rintro rfl; rfl
          show if decide (V.int (0 + (k : Int)) = V.int (i : Int)) = true then _ else _
          rw [e0]
          have e := range_snoc (fun o => decide (o = i)) (cV K) k
          refine ite2 (fun c => ?_) (fun c => ?_)
          · refine hkk _ _ (Same.refl _) ?_
            rw [← e, c]; rfl
          · refine hkk _ _ (Same.refl _) ?_
            rw [← e, show decide (k = i) = false by simpa using c]; rfl
        · rintro Hf acc2 sf hacc2 hal2 rfl
          have hD1 := sf _ _ hacc
          refine ⟨D, D2, _, _, rfl, rfl, hD1, hacc2, ?_, fun pr hpr => ?_⟩
          · simp only [List.length_map, List.length_range]
            exact line_of (by omega)
          have sg := same_new (o := .lst (((List.range ((ws.length : Nat) : Int).toNat).map fun k => decide (k ∈ ss[i])).map (cV K) ++ ((List.range ((ss.length : Nat) : Int).toNat).map fun o => decide (o = i)).map (cV K))) hpr
          have hpr2 := upd_same (H := Hf) (a := pr) (o := .lst (((List.range ((ws.length : Nat) : Int).toNat).map fun k => decide (k ∈ ss[i])).map (cV K) ++ ((List.range ((ss.length : Nat) : Int).toNat).map fun o => decide (o = i)).map (cV K)))
          generalize upd Hf pr (.lst (((List.range ((ws.length : Nat) : Int).toNat).map fun k => decide (k ∈ ss[i])).map (cV K) ++ ((List.range ((ss.length : Nat) : Int).toNat).map fun o => decide (o = i)).map (cV K))) = Hg at sg hpr2 ⊢
          have scg : Same Hc Hg := sT.trans (se.trans (sf.trans sg))
          have s0g := sc.trans scg
          have og := scg _ _ oc
          have lg := scg _ _ lc
          refine ⟨_, rfl, t, _, dx, _, _, rfl, og, cls, T.noat "Table" "rows" m_noat_Table_rows, tabG_rows _ _, .inl ⟨rfl, _, .inl (.inl lg)⟩, _, rfl, pr, _, rfl, .inr (.inl (.inl hpr2)), ?_, fun pn hpn => ?_⟩
          · simp only [List.length_append, List.length_map, List.length_range, List.length_cons, List.length_nil]
            exact line_of (by omega)
          have hnew : ((((List.range ((ws.length : Nat) : Int).toNat).map fun k => decide (k ∈ ss[i])).map (cV K) ++ ((List.range ((ss.length : Nat) : Int).toNat).map fun o => decide (o = i)).map (cV K)) ++ [V.ref (He.ga K "WHOLE")]) = ((bits ws.length ss.length i ss[i]).map (cAd K)).map V.ref := by
            unfold bits
            simp only [List.map_append, List.map_map, Int.toNat_natCast]
            rfl
          have nlr : lr ≠ pn := ne_of_none lg hpn
          have sn := same_new (o := .lst ((((List.range ((ws.length : Nat) : Int).toNat).map fun k => decide (k ∈ ss[i])).map (cV K) ++ ((List.range ((ss.length : Nat) : Int).toNat).map fun o => decide (o = i)).map (cV K)) ++ [V.ref (He.ga K "WHOLE")])) hpn
          refine ⟨lr, _, _, rfl, rfl, sn _ _ lg, ?_, ?_⟩
          · rw [List.length_map, hrs.len, List.length_take]
            exact Nat.lt_of_le_of_lt (Nat.min_le_left _ _) (small1000 (by omega))
          have kpl : ∀ {o}, Kp lr Hg (upd (upd Hg pn (.lst ((((List.range ((ws.length : Nat) : Int).toNat).map fun k => decide (k ∈ ss[i])).map (cV K) ++ ((List.range ((ss.length : Nat) : Int).toNat).map fun o => decide (o = i)).map (cV K)) ++ [V.ref (He.ga K "WHOLE")]))) lr o) := fun {o} => (Kp.of sn).upd
          refine ⟨rs ++ [pn], _, _, _, rfl, fun b u e => ?_, ?_, ?_, ?_, ?_⟩
          · rw [upd_ne (ne_of_none e f2)]
            exact sn _ _ (s0g _ _ e)
          · rw [upd_ne ntl]
            exact sn _ _ og
          · rw [upd_same, List.map_append]; rfl
          · have er : (init ws ss).rows[i]? = some (row0 ws.length ss.length i ss[i]) := by
              unfold init
              rw [List.getElem?_map, List.getElem?_range hi]
              show some (row0 ws.length ss.length i (ss.getD i [])) = _
              rw [List.getD_eq_getElem?_getD, hcs]; rfl
            rw [List.take_succ, er]
            refine AllAt.snoc ⟨hrs.len, fun j a qs e1 e2 => ?_⟩ ?_
            · have ne : a ≠ lr := fun z => hnl (by rw [← z]; exact List.mem_of_getElem? e1)
              exact ((hrs.at_ j a qs e1 e2).same scg).wr (.inl ⟨_, lg⟩) kpl ne
            · refine ⟨(bits ws.length ss.length i ss[i]).map (cAd K), ?_, ?_⟩
              · rw [upd_ne nlr.symm, upd_same, hnew]
              · rw [row0_bits]
                exact AllAt.maps (fun b => cAd_fr T _ b) _
          · intro z
            rcases List.mem_append.mp z with z | z
            · exact hnl z
            · exact nlr (List.mem_singleton.mp z)
    · rintro σ Hc ⟨rs, x0, y0, z0, rfl, sc, oc, lc, hrs, hnl⟩
      rw [hls] at hrs
      have hfull : (init ws ss).rows.take ss.length = (init ws ss).rows := by
        rw [List.take_of_length_le]
        unfold init
        simp
      rw [hfull] at hrs
      -- self.last
      refine ⟨_, rfl, tl, dxt, _, rfl, sc _ _ g1, tl, dxt, h, hw, hs, rfl, sc _ _ g1, sqT_same sc g2, hw, rfl, ⟨_, sqT_same sc g3⟩, fun D hD => ?_⟩
      refine lc_run (walk_tup (K := K) (a := hw) (xs := ws.map V.int)) hD (fun i Hq acc => ∃ cs : List Addr, acc = cs.map V.ref ∧ AllAt (FrAt K Hq) cs ((ws.take i).map fun x => ((-x : Int) : Rat))) (fun _ se => sqT_same (sc.trans se) g3) ?_ (fun _ _ => ⟨[], rfl, by rw [List.take_zero]; exact AllAt.nil⟩) (by rw [hlw]; exact line_of (by omega)) ?_ ?_
      · rintro i He1 He2 acc ys hy hk ⟨cs, e, hC⟩
        exact ⟨cs, e, hC.imp fun _ _ z => sqT_kp hk hy z⟩
      · rintro i x Hq H' acc k k0 hi se hacc hal ⟨cs, rfl, hC⟩ ⟨rfl, hx⟩ hk _
        obtain ⟨x1, hx1, rfl⟩ := map_get hx
        refine ⟨rfl, _, rfl, _, rfl, (by show 2 ≤ sizeLine; decide), fun p hp => ?_⟩
        have sp := same_new (o := .tup [.int (-x1), .int 1]) hp
        refine hk _ _ sp ⟨cs ++ [p], by rw [List.map_append]; rfl, ?_⟩
        rw [List.take_succ, hx1, List.map_append]
        exact (hC.imp fun _ _ z => z.same sp).snoc (neg_fr x1)
      · rintro Hq acc se hacc hal ⟨cs, rfl, hC⟩
        rw [hlw, List.take_length] at hC
        have se0 := sc.trans se
        refine ⟨(by show 1 ≤ sizeLine; decide), fun pe hpe => ?_⟩
        have s1' := same_new (o := .lst [V.ref (He.ga K "NONE")]) hpe
        have h1' := upd_same (H := Hq) (a := pe) (o := .lst [V.ref (He.ga K "NONE")])
        generalize upd Hq pe (.lst [V.ref (He.ga K "NONE")]) = Hf at s1' h1' ⊢
        have s0f := se0.trans s1'
        refine ⟨_, rfl, tl, dxt, _, rfl, s0f _ _ g1, tl, dxt, h, hw, hs, rfl, s0f _ _ g1, sqT_same s0f g2, hs, _, rfl, .inr (sqT_same s0f ha), _, _, rfl, rfl, pe, _, _, rfl, rfl, h1', ?_, ?_, ?_, fun pm hpm => ?_⟩
        · rw [hls]; omega
        · rw [hls]; omega
        · rw [hls]
          show 1 * _ ≤ sizeLine
          exact line_of (by omega)
        rw [hls, rep_none]
        have s2' := same_new (o := .lst ((List.replicate ((ss.length : Int) + 1).toNat (He.ga K "NONE")).map V.ref)) hpm
        have h2' := upd_same (H := Hf) (a := pm) (o := .lst ((List.replicate ((ss.length : Int) + 1).toNat (He.ga K "NONE")).map V.ref))
        generalize upd Hf pm (.lst ((List.replicate ((ss.length : Int) + 1).toNat (He.ga K "NONE")).map V.ref)) = Hg at s2' h2' ⊢
        have hDg := s2' _ _ (s1' _ _ hacc)
        refine ⟨D, pm, _, _, rfl, rfl, hDg, h2', ?_, fun ll hll => ?_⟩
        · simp only [List.length_map, List.length_replicate, hC.len]
          exact line_of (by omega)
        have s3' := same_new (o := .lst (cs.map V.ref ++ (List.replicate ((ss.length : Int) + 1).toNat (He.ga K "NONE")).map V.ref)) hll
        have h3' := upd_same (H := Hg) (a := ll) (o := .lst (cs.map V.ref ++ (List.replicate ((ss.length : Int) + 1).toNat (He.ga K "NONE")).map V.ref))
        have sce : Same Hq Hg := s1'.trans s2'
        have scg : Same Hc Hg := se.trans sce
        have nll : lr ≠ ll := ne_of_none (scg _ _ lc) hll
        generalize upd Hg ll (.lst (cs.map V.ref ++ (List.replicate ((ss.length : Int) + 1).toNat (He.ga K "NONE")).map V.ref)) = Hh at s3' h3' ⊢
        have sch : Same Hc Hh := scg.trans s3'
        have s0h := sc.trans sch
        have oh := sch _ _ oc
        have lh := sch _ _ lc
        have hlast : RowAt K Hh ll (init ws ss).last := by
          refine ⟨cs ++ List.replicate ((ss.length : Int) + 1).toNat (He.ga K "NONE"), by rw [h3', List.map_append], ?_⟩
          unfold init
          refine AllAt.app (hC.imp fun _ _ z => z.same (sce.trans s3')) ?_
          have := AllAt.maps (R := FrAt K Hh) (f := fun _ : Nat => He.ga K "NONE") (g := fun _ => (0 : Rat)) (fun _ => T.NONE Hh) (List.range (ss.length + 1))
          rw [List.map_const', List.map_const', List.length_range] at this
          exact this
        have hrh : AllAt (RowAt K Hh) rs (init ws ss).rows := hrs.imp fun _ _ z => z.same sch
        refine ⟨_, rfl, t, _, dx, _, rfl, oh, cls, T.noat "Table" "last" m_noat_Table_last, (by rw [tabG_eq]; show 2 < 1000; decide), ?_⟩
        have wt : Wr Hh t := .inr ⟨_, _, _, oh⟩
        have kt : ∀ {o}, Kp t Hh (upd Hh t o) := fun {o} => kp_upd
        have ntll : t ≠ ll := ne_of oh h3' (by intro z; cases z)
        have ntr : ∀ a, a ∈ rs → a ≠ t := fun a hm z => by
          obtain ⟨j, hj, e⟩ := List.mem_iff_getElem.mp hm
          obtain ⟨bs, hb, _⟩ := hrh.at_ j a _ (by rw [List.getElem?_eq_getElem hj, e]) (List.getElem?_eq_getElem (by rw [← hrh.len]; exact hj))
          rw [z, oh] at hb
          cases hb
        have sI : Same H0 (upd Hh t (.ins (He.ga K "Table") dx (putF "last" (.ref ll) (TabG ws.length lr)))) := sb s0h
        have oI := upd_same (H := Hh) (a := t) (o := .ins (He.ga K "Table") dx (putF "last" (.ref ll) (TabG ws.length lr)))
        have lI : (upd Hh t (.ins (He.ga K "Table") dx (putF "last" (.ref ll) (TabG ws.length lr)))) lr = some (.lst (rs.map V.ref)) := by rw [upd_ne ntl.symm]; exact lh
        have lastI : RowAt K (upd Hh t (.ins (He.ga K "Table") dx (putF "last" (.ref ll) (TabG ws.length lr)))) ll (init ws ss).last := hlast.wr wt kt ntll.symm
        have rowsI : AllAt (RowAt K (upd Hh t (.ins (He.ga K "Table") dx (putF "last" (.ref ll) (TabG ws.length lr))))) rs (init ws ss).rows :=
          ⟨hrh.len, fun j a qs e1 e2 => (hrh.at_ j a qs e1 e2).wr wt kt (ntr a (List.mem_of_getElem? e1))⟩
        generalize upd Hh t (.ins (He.ga K "Table") dx (putF "last" (.ref ll) (TabG ws.length lr))) = Hi at sI oI lI lastI rowsI ⊢
        -- self.base
        refine ⟨_, rfl, tl, dxt, _, rfl, sI _ _ g1, tl, dxt, h, hw, hs, rfl, sI _ _ g1, sqT_same sI g2, hs, _, rfl, .inr (sqT_same sI ha), _, rfl, by rw [hls]; omega, by rw [hls]; omega, fun lb hlb => ?_⟩
        rw [hls]
        refine lc_run (walk_range (lo := 0) (n := ((ss.length : Nat) : Int).toNat)) hlb (fun i' _ acc => acc = (List.range i').map fun i => nV (ws.length + i)) (fun _ _ => trivial) (fun _ _ _ _ _ _ _ h => h) (fun _ _ => rfl) (line_of (by omega)) ?_ ?_
        · rintro k xk Hj H'' acc kk kk0 hk sj hacc2 hal2 rfl ⟨rfl, rfl⟩ hkk _
          have hmany : (putF "last" (.ref ll) (TabG ws.length lr)).lookup ("many" : Str) = some (nV ws.length) := by
            rw [lookup_putF, if_neg s_ml, tabG_many]
          refine ⟨rfl, _, rfl, t, _, dx, _, _, rfl, sj _ _ oI, cls, T.noat "Table" "many" m_noat_Table_many, hmany, _, rfl, _, _, rfl, rfl, hkk _ _ (Same.refl _) ?_⟩
          rw [← range_snocV (fun i => nV (ws.length + i)) k]
          congr 2
          show V.int ((ws.length : Int) + (0 + (k : Int))) = V.int ((ws.length + k : Nat) : Int)
          rw [Int.zero_add, Int.natCast_add]
        · rintro Hj acc2 sj hacc2 hal2 rfl
          refine ⟨_, rfl, t, _, dx, _, rfl, sj _ _ oI, cls, T.noat "Table" "base" m_noat_Table_base, ?_, ?_⟩
          · rw [show (putF "last" (.ref ll) (TabG ws.length lr)).length = 3 by
              have := congrArg List.length (tabF_eq ws.length lr ll lr)
              have e := tabG_eq ws.length lr
              rw [e]
              show (if ("many" : Str) = "last" then _ else (("many" : Str), nV ws.length) :: (if ("rows" : Str) = "last" then _ else (("rows" : Str), V.ref lr) :: putF "last" (.ref ll) [])).length = 3
              rw [if_neg s_ml, if_neg s_rl]; rfl]
            decide
          have oj := sj _ _ oI
          have wj : Wr Hj t := .inr ⟨_, _, _, oj⟩
          have ntlb : t ≠ lb := ne_of oj hacc2 (by intro z; cases z)
          have nlb : ∀ a, Hi a ≠ none → a ≠ lb := fun a ha z => ha (by rw [z]; exact hlb)
          refine q _ ⟨dx, lr, ll, lb, rs, ?_⟩
          refine ⟨upd_same, ?_, ⟨rowsI.len, fun j a qs e1 e2 => ((rowsI.at_ j a qs e1 e2).same sj).wr wj kp_upd (ntr a (List.mem_of_getElem? e1))⟩, (lastI.same sj).wr wj kp_upd ntll.symm, ?_, ?_, nll.symm, ?_, hnl, ?_, sb (sI.trans sj), ft, f2, sI.free hlb⟩
          · rw [upd_ne ntl.symm]; exact sj _ _ lI
          · rw [upd_ne ntlb.symm, hacc2]
            unfold init
            rw [List.map_map, Int.toNat_natCast]; rfl
          · exact nlb lr (by rw [lI]; simp)
          · obtain ⟨bs, hb, _⟩ := lastI
            exact nlb ll (by rw [hb]; simp)
          · intro hm
            obtain ⟨j, hj, e⟩ := List.mem_iff_getElem.mp hm
            obtain ⟨bs, hb, _⟩ := rowsI.at_ j lb _ (by rw [List.getElem?_eq_getElem hj, e]) (List.getElem?_eq_getElem (by rw [← rowsI.len]; exact hj))
            rw [hlb] at hb
            cases hb
end
end Kg

set_option maxHeartbeats 4000000
/-! The walk: a turn of the table, the table solved, the sure chance. -/
namespace Kg
open PySem PySem.Spec PyProof.Rows L2 Mi StX
def midR (T : Tb) (r s i : Nat) : List (List Rat) := T.rows.mapIdx fun j row => if j = r then fresh T r s else if j < i then less row (fresh T r s) s else row
theorem midR_get (T : Tb) (r s i j : Nat) : (midR T r s i)[j]? = T.rows[j]?.map fun row => if j = r then fresh T r s else if j < i then less row (fresh T r s) s else row := by
  unfold midR
  rw [List.getElem?_mapIdx]
theorem midR_0 (T : Tb) {r s : Nat} (hr : r < T.rows.length) : T.rows.set r (fresh T r s) = midR T r s 0 := by
  apply List.ext_getElem?
  intro j
  rw [midR_get, List.getElem?_set]
  by_cases e : r = j
  · subst e
    rw [if_pos rfl, if_pos hr, List.getElem?_eq_getElem hr]
    simp
  · rw [if_neg e]
    cases h : T.rows[j]? with
    | none => rfl
    | some x => simp; intro z; exact absurd z.symm e
theorem midR_at (T : Tb) (r s i : Nat) : midR T r s (i + 1) = if i = r then midR T r s i else (midR T r s i).set i (less (T.rows.getD i []) (fresh T r s) s) := by
  apply List.ext_getElem?
  intro j
  by_cases e : i = r
  · rw [if_pos e, midR_get, midR_get]
    cases h : T.rows[j]? with
    | none => rfl
    | some x =>
      simp only [Option.map_some]
      by_cases q : j = r
      · rw [if_pos q, if_pos q]
      · rw [if_neg q, if_neg q]
        by_cases l : j < i
        · rw [if_pos l, if_pos (by omega)]
        · rw [if_neg l, if_neg (by omega)]
  · rw [if_neg e, midR_get, List.getElem?_set]
    by_cases q : i = j
    · subst q
      rw [if_pos rfl]
      have hl : (midR T r s i).length = T.rows.length := by unfold midR; rw [List.length_mapIdx]
      rw [hl]
      by_cases hi : i < T.rows.length
      · rw [if_pos hi, List.getD_eq_getElem?_getD, List.getElem?_eq_getElem hi]
        simp [e]
      · rw [if_neg hi, List.getElem?_eq_none (by omega)]; rfl
    · rw [if_neg q, midR_get]
      cases h : T.rows[j]? with
      | none => rfl
      | some x =>
        simp only [Option.map_some]
        by_cases z : j = r
        · rw [if_pos z, if_pos z]
        · rw [if_neg z, if_neg z]
          by_cases l : j < i
          · rw [if_pos l, if_pos (by omega)]
          · rw [if_neg l, if_neg (by omega)]
theorem midR_end (T : Tb) (r s : Nat) : midR T r s T.rows.length = (turn T r s).rows := by
  apply List.ext_getElem?
  intro j
  rw [midR_get]
  unfold turn
  rw [List.getElem?_mapIdx]
  cases h : T.rows[j]? with
  | none => rfl
  | some x =>
    have hj : j < T.rows.length := (List.getElem?_eq_some_iff.mp h).1
    simp only [Option.map_some]
    rw [if_pos hj]
theorem AllAt.set {α : Type} {R : Addr → α → Prop} {as : List Addr} {xs : List α} (h : AllAt R as xs) {i : Nat} {a : Addr} {x : α} (r : R a x) : AllAt R (as.set i a) (xs.set i x) := by
  refine ⟨by simp [h.len], fun j b y e1 e2 => ?_⟩
  rw [List.getElem?_set] at e1 e2
  by_cases e : i = j
  · rw [if_pos e] at e1 e2
    rw [h.len] at e1
    by_cases l : i < xs.length
    · rw [if_pos l] at e1 e2
      cases e1; cases e2; exact r
    · rw [if_neg l] at e1; cases e1
  · rw [if_neg e] at e1 e2
    exact h.at_ j b y e1 e2
theorem map_set {α β : Type} (f : α → β) (l : List α) (i : Nat) (a : α) : (l.map f).set i (f a) = (l.set i a).map f := by
  rw [List.map_set]
section
variable {K : PySem.W.Frag} {H0 H : Hp} {t dx lr ll lb : Addr} {rs : List Addr} {many : Nat} {T : Tb}
theorem TabI.row_ne (x : TabI K H0 H t dx lr ll lb rs many T) {a : Addr} (h : a ∈ rs) : a ≠ t := fun z => by
  obtain ⟨j, hj, e⟩ := List.mem_iff_getElem.mp h
  obtain ⟨bs, hb, _⟩ := x.rows.at_ j a _ (by rw [List.getElem?_eq_getElem hj, e]) (List.getElem?_eq_getElem (by rw [← x.rows.len]; exact hj))
  rw [z, x.ob] at hb
  cases hb
theorem TabI.setRow (x : TabI K H0 H t dx lr ll lb rs many T) {l : Addr} {row : List Rat} (h : RowAt K H l row) (h1 : l ≠ lr) (h2 : l ≠ lb) (i : Nat) :
    TabI K H0 (upd H lr (.lst ((rs.set i l).map V.ref))) t dx lr ll lb (rs.set i l) many ⟨T.rows.set i row, T.last, T.base⟩ where
  ob := by rw [upd_ne (ne_of x.ob x.rw_ (by intro z; cases z))]; exact x.ob
  rw_ := upd_same
  rows := by
    have w : Wr H lr := .inl ⟨_, x.rw_⟩
    refine AllAt.set ⟨x.rows.len, fun j a qs e1 e2 => (x.rows.at_ j a qs e1 e2).wr w kp_upd fun z => x.n4 (by rw [← z]; exact List.mem_of_getElem? e1)⟩ (h.wr w kp_upd h1)
  last := x.last.wr (.inl ⟨_, x.rw_⟩) kp_upd x.n2
  base := by rw [upd_ne x.n1.symm]; exact x.base
  n1 := x.n1
  n2 := x.n2
  n3 := x.n3
  n4 := fun z => by
    rcases List.mem_or_eq_of_mem_set z with z | z
    · exact x.n4 z
    · exact h1 z.symm
  n5 := fun z => by
    rcases List.mem_or_eq_of_mem_set z with z | z
    · exact x.n5 z
    · exact h2 z.symm
  old := fun b u z => by rw [upd_ne (ne_of_none z x.f2)]; exact x.old b u z
  f1 := x.f1
  f2 := x.f2
  f3 := x.f3
theorem TabI.setLast (x : TabI K H0 H t dx lr ll lb rs many T) {l : Addr} {row : List Rat} (h : RowAt K H l row) (h1 : l ≠ lr) (h2 : l ≠ lb) :
    TabI K H0 (upd H t (.ins (He.ga K "Table") dx (TabF many lr l lb))) t dx lr l lb rs many ⟨T.rows, row, T.base⟩ where
  ob := upd_same
  rw_ := by rw [upd_ne (ne_of x.rw_ x.ob (by intro z; cases z))]; exact x.rw_
  rows := by
    have w : Wr H t := .inr ⟨_, _, _, x.ob⟩
    exact ⟨x.rows.len, fun j a qs e1 e2 => (x.rows.at_ j a qs e1 e2).wr w kp_upd (x.row_ne (List.mem_of_getElem? e1))⟩
  last := h.wr (.inr ⟨_, _, _, x.ob⟩) kp_upd (by obtain ⟨_, q, _⟩ := h; exact ne_of q x.ob (by intro z; cases z))
  base := by rw [upd_ne (ne_of x.base x.ob (by intro z; cases z))]; exact x.base
  n1 := x.n1
  n2 := h1
  n3 := h2
  n4 := x.n4
  n5 := x.n5
  old := fun b u z => by rw [upd_ne (ne_of_none z x.f1)]; exact x.old b u z
  f1 := x.f1
  f2 := x.f2
  f3 := x.f3
theorem TabI.setBase (x : TabI K H0 H t dx lr ll lb rs many T) (i c : Nat) :
    TabI K H0 (upd H lb (.lst ((T.base.map nV).set i (nV c)))) t dx lr ll lb rs many ⟨T.rows, T.last, T.base.set i c⟩ where
  ob := by rw [upd_ne (ne_of x.ob x.base (by intro z; cases z))]; exact x.ob
  rw_ := by rw [upd_ne x.n1]; exact x.rw_
  rows := by
    have w : Wr H lb := .inl ⟨_, x.base⟩
    exact ⟨x.rows.len, fun j a qs e1 e2 => (x.rows.at_ j a qs e1 e2).wr w kp_upd fun z => x.n5 (by rw [← z]; exact List.mem_of_getElem? e1)⟩
  last := x.last.wr (.inl ⟨_, x.base⟩) kp_upd x.n3
  base := by rw [upd_same, map_set nV]
  n1 := x.n1
  n2 := x.n2
  n3 := x.n3
  n4 := x.n4
  n5 := x.n5
  old := fun b u z => by rw [upd_ne (ne_of_none z x.f3)]; exact x.old b u z
  f1 := x.f1
  f2 := x.f2
  f3 := x.f3
theorem TabI.ne_lr (x : TabI K H0 H t dx lr ll lb rs many T) {l : Addr} (h : H l = none) : l ≠ lr := fun z => by rw [z, x.rw_] at h; cases h
theorem TabI.ne_lb (x : TabI K H0 H t dx lr ll lb rs many T) {l : Addr} (h : H l = none) : l ≠ lb := fun z => by rw [z, x.base] at h; cases h
end
def spTurn (K : PySem.W.Frag) : Sp := fun vs H Q _ => ∃ (t : Addr) (H0 : Hp) (many m n : Nat) (T : Tb) (r s : Nat), vs = [.ref t, nV r, nV s] ∧ TabAt K H0 H t many T ∧ Wf m n T ∧ r < m ∧ s < n + 1 ∧ m ≤ 100 ∧ n < 100 ∧
  (∀ i j, i < m → j < n + 1 → Sz 64 (ent T i j)) ∧ (∀ j, j < n + 1 → Sz 64 (T.last.getD j 0)) ∧ (∀ j, j < n + 1 → Sz 64 (ent (turn T r s) r j)) ∧ 0 < ent T r s ∧ ∀ H', TabAt K H0 H' t many (turn T r s) → Q .non H'
section
variable {P : Program} {w : World} {K : PySem.W.Frag} {mg : Str → Option Value} {base : Heap} (T : Tx K mg)
include T
theorem C_turn : Cm P w K mg base (He.ga K "Table") "turn" 5 ["self", "index", "column"] (spTurn K) := by
  refine cm_of T d_Table_turn n_Table_turn rfl m_meth_Table_turn m_cls_Table sc_Table_turn ba_Table_turn ?_ ?_
  · rintro vs H Q E ⟨t, H0, many, m, n, T', r, s, rfl, _⟩; rfl
  · rintro f cdv A outer s' H vs Q E hr ⟨t, H0, many, m, n, T', r, s, rfl, ⟨dx, lr, ll, lb, rs, x⟩, W, hrm, hsn, hm, hn, hsz, hzz, hfz, hp, q⟩
    refine ⟨_, (pss_cons (ps_set (i := 3) sc_Table_turn.nd rfl (Or.inr rfl) (pe_ix (ixL (K := K) rfl) (pe_ix (ixL (K := K) rfl) (peF (K := K) rfl (pv 0) rfl) (pv 1) (fun _ _ => rfl)) (pv 2) (fun _ _ => rfl)))
    (pss_cons (ps_asg (pe_lc (own := [("value", 6)]) (by rfl) sc_Table_turn.nd (piL (K := K) rfl (pe_ix (ixL (K := K) rfl) (peF (K := K) rfl (pv 0) rfl) (pv 1) (fun _ _ => rfl))) (blkOk_by (own := [("value", 6)]) (N := N_Table_turn) (sc := defScope s_Table_turn) (by decide +kernel)) (fun _ _ _ _ _ => pg_name (i := 6) sc_Table_turn.nd rfl (Or.inl rfl)) (fun _ _ _ _ _ => pts_nil) (fun _ _ _ _ _ => (pe_cb (C_over T) (hr.mono (by decide)) (by rfl) (pa_cons (pv 6) (pa_cons (pv 3) pa_nil))))) (pg_sub (peF (K := K) rfl (pv 0) rfl) (pv 1) set_list))
    (pss_cons (ps_set (i := 4) sc_Table_turn.nd rfl (Or.inl rfl) (pe_ix (ixL (K := K) rfl) (peF (K := K) rfl (pv 0) rfl) (pv 1) (fun _ _ => rfl)))
    (pss_cons (ps_for PassesOwn.never rfl (pi_range1 (by rfl) (T.free "range" m_free_range) (pa_cons (pe_callB (callLen (K := K) rfl) (by rfl) (T.free "len" m_free_len) bt_len (pa_cons (peF (K := K) rfl (pv 0) rfl) pa_nil)) pa_nil)) (pg_name (i := 5) sc_Table_turn.nd rfl (Or.inl rfl))
      (pss_one (ps_if (pt_cmpR op_ne (pv 5) (pv 1) (nomark _))
        (pss_one (ps_asg (pe_cb (C_lessened T) (hr.mono (by decide)) (by rfl) (pa_cons (pe_ix (ixL (K := K) rfl) (peF (K := K) rfl (pv 0) rfl) (pv 5) (fun _ _ => rfl)) (pa_cons (pv 4) (pa_cons (pv 2) pa_nil)))) (pg_sub (peF (K := K) rfl (pv 0) rfl) (pv 5) set_list)))
        pss_nil)))
    (pss_cons (ps_fld (pv 0) (pe_cb (C_lessened T) (hr.mono (by decide)) (by rfl) (pa_cons (peF (K := K) rfl (pv 0) rfl) (pa_cons (pv 4) (pa_cons (pv 2) pa_nil)))) rfl)
    (pss_one (ps_asg (pv 2) (pg_sub (peF (K := K) rfl (pv 0) rfl) (pv 1) set_list)))))))), ?_⟩
    have cls := T.cls "Table" m_cls_Table
    have nar := T.noat "Table" "rows" m_noat_Table_rows
    have nal := T.noat "Table" "last" m_noat_Table_last
    have nab := T.noat "Table" "base" m_noat_Table_base
    have hlen : (rs.map V.ref).length = m := by rw [List.length_map, x.rows.len, W.rows]
    obtain ⟨l0, el0, hR0⟩ := x.get (i := r) (by rw [W.rows]; exact hrm)
    obtain ⟨as, ha, hA⟩ := id hR0
    have lrow := W.row r hrm
    obtain ⟨ad, ead, fad⟩ := frat_get hA (i := s) (by rw [lrow]; exact hsn)
    -- lead
    refine ⟨_, rfl, t, _, dx, _, _, rfl, x.ob, cls, nar, tabF_rows _ _ _ _, _, rfl, lr, _, _, _, rfl, rfl, .inl (.inl x.rw_), atI_nat (ref_get el0), _, rfl, l0, _, _, _, rfl, rfl, .inl (.inl ha), atI_nat (ref_get ead), ?_⟩
    -- the new row
    refine ⟨_, rfl, t, _, dx, _, _, rfl, x.ob, cls, nar, tabF_rows _ _ _ _, _, rfl, lr, _, _, _, rfl, rfl, .inl (.inl x.rw_), atI_nat (ref_get el0), l0, rfl, ⟨_, .inl (.inl ha)⟩, fun D hD => ?_⟩
    have la : (as.map V.ref).length = n + 1 := by rw [List.length_map, hA.len, lrow]
    have lfr : (fresh T' r s).length = n + 1 := fresh_len W hrm
    refine lc_run (walk_list (K := K) (a := l0) (xs := as.map V.ref)) hD (fun i Hq acc => ∃ cs : List Addr, acc = cs.map V.ref ∧ AllAt (FrAt K Hq) cs ((fresh T' r s).take i)) (fun _ se => .inl (.inl (se _ _ ha))) ?_ (fun _ _ => ⟨[], rfl, by rw [List.take_zero]; exact AllAt.nil⟩) (by rw [la]; exact line_of (by omega)) ?_ ?_
    · rintro i He1 He2 acc ys hy hk ⟨cs, e, hC⟩
      exact ⟨cs, e, hC.imp fun _ _ z => sqT_kp hk hy z⟩
    · rintro i xx Hq H' acc k k0 hi se hacc hal ⟨cs, rfl, hC⟩ ⟨rfl, hx⟩ hk _
      obtain ⟨a1, ha1, rfl⟩ := map_get hx
      rw [la] at hi
      have fa : FrAt K H a1 (ent T' r i) := by
        obtain ⟨a', e1, f1⟩ := frat_get hA (i := i) (by rw [lrow]; exact hi)
        rw [ha1] at e1; cases e1; exact f1
      refine ⟨rfl, _, rfl, _, rfl, a1, ad, _, _, rfl, fa.same se, fad.same se, (hsz r i hrm hi).mono (by decide), (hsz r s hrm hsn).mono (by decide), hp, fun p H3 hp3 s3 fp => ?_⟩
      refine hk _ _ s3 ⟨cs ++ [p], by rw [List.map_append]; rfl, ?_⟩
      have e : (fresh T' r s)[i]? = some (ent T' r i / ent T' r s) := by
        unfold Mi.fresh
        rw [List.getElem?_map, List.getElem?_eq_getElem (by rw [lrow]; exact hi)]
        show some ((T'.rows.getD r [])[i] / _) = some ((T'.rows.getD r []).getD i 0 / _)
        rw [List.getD_eq_getElem?_getD (l := T'.rows.getD r []), List.getElem?_eq_getElem (by rw [lrow]; exact hi)]; rfl
      rw [List.take_succ, e]
      exact (hC.imp fun _ _ z => z.same s3).snoc fp
    rintro Hq acc se hacc hal ⟨cs, rfl, hC⟩
    rw [la, ← lfr, List.take_length] at hC
    have x1 := x.same se
    have hD1 : RowAt K Hq D (fresh T' r s) := ⟨cs, hacc, hC⟩
    refine ⟨_, rfl, t, _, dx, _, _, rfl, x1.ob, cls, nar, tabF_rows _ _ _ _, _, rfl, lr, _, _, r, rfl, rfl, x1.rw_, ?_, ?_⟩
    · rw [hlen]
      unfold ixN
      rw [if_pos (by omega), if_pos (by omega)]
      rfl
    have x2 := x1.setRow hD1 (x.ne_lr hD) (x.ne_lb hD) r
    rw [midR_0 T' (by rw [W.rows]; exact hrm)] at x2
    rw [map_set V.ref]
    generalize upd Hq lr (.lst ((rs.set r D).map V.ref)) = H2 at x2 ⊢
    have gD : (rs.set r D)[r]? = some D := by
      rw [List.getElem?_set_self]
      rw [x.rows.len, W.rows]; exact hrm
    generalize rs.set r D = rs2 at x2 gD ⊢
    refine ⟨_, rfl, t, _, dx, _, _, rfl, x2.ob, cls, nar, tabF_rows _ _ _ _, _, rfl, lr, _, _, _, rfl, rfl, .inl (.inl x2.rw_), atI_nat (ref_get gD), ?_⟩
    -- the other rows
    have lm : ∀ i, (midR T' r s i).length = m := fun i => by unfold midR; rw [List.length_mapIdx, W.rows]
    have l2 : (rs2.map V.ref).length = m := by rw [List.length_map, x2.rows.len]; exact lm 0
    refine ⟨_, rfl, t, _, dx, _, _, rfl, x2.ob, cls, nar, tabF_rows _ _ _ _, lr, _, rfl, .inl (.inl (.inl x2.rw_)), _, rfl, ?_, ?_, ?_⟩
    · rw [l2]; omega
    · rw [l2]; omega
    rw [l2]
    refine for_range (lo := 0) (n := (m : Int).toNat) (fun i σ Hc => ∃ rs3 y z, σ = [some (.ref t), some (nV r), some (nV s), some (.ref ad), some (.ref D), y, z] ∧ TabI K H0 Hc t dx lr ll lb rs3 many ⟨midR T' r s i, T'.last, T'.base⟩ ∧ rs3[r]? = some D) ⟨rs2, none, none, rfl, x2, gD⟩ ?_ ?_
    · rintro i σ Hc hi ⟨rs3, y, z, rfl, x3, g3⟩
      have him : i < m := by omega
      have l3 : (rs3.map V.ref).length = m := by rw [List.length_map, x3.rows.len]; exact lm i
      rw [show V.int (0 + (i : Int)) = nV i by rw [Int.zero_add]]
      refine ⟨_, rfl, _, rfl, rfl, _, rfl, ?_⟩
      by_cases eir : i = r
      · rw [show (!decide (nV i = nV r)) = false by rw [eir, decide_eq_true rfl]; rfl]
        refine iteF ⟨rs3, _, _, rfl, ?_, g3⟩
        rw [midR_at, if_pos eir]; exact x3
      · rw [show (!decide (nV i = nV r)) = true by rw [decide_eq_false (fun z => eir (by injection z with z; omega))]; rfl]
        refine iteT ?_
        have eold : (midR T' r s i).getD i [] = T'.rows.getD i [] := by
          rw [List.getD_eq_getElem?_getD, midR_get, List.getElem?_eq_getElem (by rw [W.rows]; exact him), List.getD_eq_getElem?_getD, List.getElem?_eq_getElem (by rw [W.rows]; exact him)]
          simp [eir]
        obtain ⟨li, eli, hRi⟩ := x3.get (i := i) (by show i < (midR T' r s i).length; rw [lm]; exact him)
        rw [show (⟨midR T' r s i, T'.last, T'.base⟩ : Tb).rows.getD i [] = T'.rows.getD i [] from eold] at hRi
        have hRD : RowAt K Hc D (fresh T' r s) := by
          have e2 : (midR T' r s i)[r]? = some (fresh T' r s) := by
            rw [midR_get, List.getElem?_eq_getElem (by rw [W.rows]; exact hrm)]; simp
          exact x3.rows.at_ r D _ g3 e2
        have li0 := W.row i him
        refine ⟨_, rfl, t, _, dx, _, _, rfl, x3.ob, cls, nar, tabF_rows _ _ _ _, _, rfl, lr, _, _, _, rfl, rfl, .inl (.inl x3.rw_), atI_nat (ref_get eli), _, rfl, _, rfl, li, D, _, _, s, rfl, hRi, hRD, by rw [li0, lfr], by omega, by omega, fun j hj => hsz i j him (by omega), fun j hj => ?_, fun l H' s4 hl hor => ?_⟩
        · have := hfz j (by omega)
          unfold ent at this
          rw [turn_row W hrm hrm, if_pos rfl] at this
          exact this
        · have x4 := x3.same s4
          refine ⟨_, rfl, t, _, dx, _, _, rfl, x4.ob, cls, nar, tabF_rows _ _ _ _, _, rfl, lr, _, _, i, rfl, rfl, x4.rw_, ?_, ?_⟩
          · rw [l3]
            unfold ixN
            rw [if_pos (by omega), if_pos (by omega)]
            rfl
          rw [map_set V.ref]
          have n1 : l ≠ lr := by
            rcases hor with e | e
            · rw [e]; exact fun z => x3.n4 (by rw [← z]; exact List.mem_of_getElem? eli)
            · exact x3.ne_lr e
          have n2 : l ≠ lb := by
            rcases hor with e | e
            · rw [e]; exact fun z => x3.n5 (by rw [← z]; exact List.mem_of_getElem? eli)
            · exact x3.ne_lb e
          refine ⟨rs3.set i l, _, _, rfl, ?_, ?_⟩
          · rw [midR_at, if_neg eir]
            exact x4.setRow hl n1 n2 i
          · rw [List.getElem?_set_ne eir]; exact g3
    · rintro σ Hc ⟨rs3, y, z, rfl, x3, g3⟩
      rw [Int.toNat_natCast] at x3
      have hRD : RowAt K Hc D (fresh T' r s) := by
        have e2 : (midR T' r s m)[r]? = some (fresh T' r s) := by
          rw [midR_get, List.getElem?_eq_getElem (by rw [W.rows]; exact hrm)]; simp
        exact x3.rows.at_ r D _ g3 e2
      rw [show midR T' r s m = (turn T' r s).rows by rw [← W.rows]; exact midR_end T' r s] at x3
      have ll0 := W.last
      refine ⟨_, rfl, t, _, dx, _, _, rfl, x3.ob, cls, nal, tabF_last _ _ _ _, _, rfl, _, rfl, ll, D, _, _, s, rfl, x3.last, hRD, by rw [ll0, lfr], by show T'.last.length ≤ 100; omega, by show s < T'.last.length; omega, fun j hj => hzz j (by have : j < T'.last.length := hj; omega), fun j hj => ?_, fun l H' s4 hl hor => ?_⟩
      · have := hfz j (by have : j < _ := hj; omega)
        unfold ent at this
        rw [turn_row W hrm hrm, if_pos rfl] at this
        exact this
      · have x4 := x3.same s4
        have n1 : l ≠ lr := by
          rcases hor with e | e
          · rw [e]; exact x3.n2
          · exact x3.ne_lr e
        have n2 : l ≠ lb := by
          rcases hor with e | e
          · rw [e]; exact x3.n3
          · exact x3.ne_lb e
        refine ⟨_, rfl, t, _, dx, _, rfl, x4.ob, cls, nal, tabF_len _ _ _ _, ?_⟩
        have x5 := x4.setLast hl n1 n2
        rw [tabF_put]
        generalize upd H' t (.ins (He.ga K "Table") dx (TabF many lr l lb)) = H5 at x5 ⊢
        refine ⟨_, rfl, _, rfl, t, _, dx, _, _, rfl, x5.ob, cls, nab, tabF_base _ _ _ _, _, rfl, lb, _, _, r, rfl, rfl, x5.base, ?_, ?_⟩
        · rw [List.length_map]
          show ixN T'.base.length _ = _
          rw [W.base]
          unfold ixN
          rw [if_pos (by omega), if_pos (by omega)]
          rfl
        exact q _ ⟨dx, lr, l, lb, rs3, x5.setBase r s⟩
end
end Kg

set_option maxHeartbeats 4000000
/-! The walk: the table solved, the sure chance. -/
namespace Kg
open PySem PySem.Spec PyProof.Rows L2 Mi StX
theorem Val.valid {ws : List Int} {ss : List (List Nat)} (v : Val ws ss) : Valid ws ss := ⟨v.wt, v.m5, v.cov⟩
def spSolve (K : PySem.W.Frag) : Sp := fun vs H Q _ => ∃ (t : Addr) (H0 : Hp) (many m n W : Nat) (A : Nat → Nat → Rat) (c : Nat → Rat) (T F : Tb) (k : Nat), vs = [.ref t] ∧ TabAt K H0 H t many T ∧ Good m n W A c T ∧ m ≤ 5 ∧ n < 100 ∧ W ≤ 1000000 ∧ iter k T = F ∧ colOf F.last = none ∧
  ∀ H', TabAt K H0 H' t many F → Q .non H'
def spSolved (K : PySem.W.Frag) : Sp := fun vs H Q _ => ∃ (tl : Addr) (ws : List Int) (ss : List (List Nat)), vs = [.ref tl] ∧ TelAt K H tl ws ss ∧ Val ws ss ∧ ∀ t H', Same H H' → TabAt K H H' t ws.length (final ws ss) → Q (.ref t) H'
def spShare (K : PySem.W.Frag) : Sp := fun vs H Q _ => ∃ (tl v : Addr) (ws : List Int) (ss : List (List Nat)) (p : Rat), vs = [.ref tl, .ref v] ∧ TelAt K H tl ws ss ∧ Val ws ss ∧ FrAt K H v p ∧ Sz 64 p ∧
  ∀ a H', H a = none → Same H H' → FrAt K H' a (p / ((ws.sum : Int) : Rat)) → Q (.ref a) H'
def spSure (K : PySem.W.Frag) : Sp := fun vs H Q _ => ∃ (tl : Addr) (ws : List Int) (ss : List (List Nat)), vs = [.ref tl] ∧ TelAt K H tl ws ss ∧ Val ws ss ∧
  ∀ a H', Same H H' → FrAt K H' a (sure ws ss) → Q (.ref a) H'
theorem sum_ws : ∀ {ws : List Int}, (∀ x, x ∈ ws → 1 ≤ x ∧ x ≤ 1000000) → (ws.length : Int) ≤ ws.sum ∧ ws.sum ≤ 1000000 * ws.length
  | [], _ => ⟨by decide, by decide⟩
  | x :: ws, h => by
    have a := h x List.mem_cons_self
    have b := sum_ws (ws := ws) fun y hy => h y (List.mem_cons_of_mem _ hy)
    rw [List.sum_cons, List.length_cons]
    omega
theorem share_div (p : Rat) {S : Int} (hS : 0 < S) : Rat.divInt p.num ((p.den : Nat) * S) = p / (S : Rat) := by
  have h0 : (0 : Rat) < (S : Rat) := by
    have := (Rat.lt_iff 0 (S : Rat))
    simp at this
    exact this.mpr hS
  have e := over_div p (S : Rat) h0
  rw [← e]
  simp
def SolveW (K : PySem.W.Frag) (H0 : Hp) (t : Addr) (many m n W : Nat) (A : Nat → Nat → Rat) (c : Nat → Rat) (F : Tb) (j : Nat) (σ : L2.St) (Hc : Hp) : Prop := ∃ T2, σ = [some (.ref t), some (colV (colOf T2.last))] ∧ TabAt K H0 Hc t many T2 ∧ Good m n W A c T2 ∧ iter j T2 = F
section
variable {P : Program} {w : World} {K : PySem.W.Frag} {mg : Str → Option Value} {base : Heap} (T : Tx K mg)
include T
theorem C_solve : Cm P w K mg base (He.ga K "Table") "solve" 6 ["self"] (spSolve K) := by
  refine cm_of T d_Table_solve n_Table_solve rfl m_meth_Table_solve m_cls_Table sc_Table_solve ba_Table_solve ?_ ?_
  · rintro vs H Q E ⟨t, H0, many, m, n, W, A, c, T', F, k, rfl, _⟩; rfl
  · rintro f cdv A' outer s' H vs Q E hr ⟨t, H0, many, m, n, W, A, c, T', F, k, rfl, hx, G, hm, hn, hW, hF, hd, q⟩
    refine ⟨_, (pss_cons (ps_set (i := 1) sc_Table_solve.nd rfl (Or.inl rfl) (pe_cm0 (C_column T) (hr.mono (by decide)) (pv 0)))
    (pss_one (ps_while PassesOwn.never (pt_cmpR op_notN (pv 1) pe_non (nomark _))
      (pss_cons (ps_expr (pe_cm (C_turn T) (hr.mono (by decide)) (pv 0) (pa_cons (pe_cm (C_row T) (hr.mono (by decide)) (pv 0) (pa_cons (pv 1) pa_nil)) (pa_cons (pv 1) pa_nil))))
      (pss_one (ps_set (i := 1) sc_Table_solve.nd rfl (Or.inl rfl) (pe_cm0 (C_column T) (hr.mono (by decide)) (pv 0)))))))), ?_⟩
    have nat : ∀ {lr ll lb}, (TabF many lr ll lb).lookup ("column" : Str) = none := fun {lr ll lb} => tabF_no _ _ _ _ (by decide +kernel) (by decide +kernel) (by decide +kernel) (by decide +kernel)
    have nat2 : ∀ {lr ll lb}, (TabF many lr ll lb).lookup ("turn" : Str) = none := fun {lr ll lb} => tabF_no _ _ _ _ (by decide +kernel) (by decide +kernel) (by decide +kernel) (by decide +kernel)
    have nat3 : ∀ {lr ll lb}, (TabF many lr ll lb).lookup ("row" : Str) = none := fun {lr ll lb} => tabF_no _ _ _ _ (by decide +kernel) (by decide +kernel) (by decide +kernel) (by decide +kernel)
    obtain ⟨dx, lr, ll, lb, rs, x⟩ := id hx
    have lw := G.wf.last
    refine ⟨_, rfl, t, dx, _, rfl, x.ob, nat, ?_⟩
    refine ⟨t, H0, many, T', rfl, hx, ?_⟩
    refine ⟨by omega, by omega, ?_⟩
    refine ⟨SolveW K H0 t many m n W A c F, ⟨k, T', rfl, hx, G, hF⟩, ?_⟩
    rintro j σ Hc ⟨T2, rfl, hx2, G2, hF2⟩
    obtain ⟨dx2, lr2, ll2, lb2, rs2, x2⟩ := id hx2
    have lw2 := G2.wf.last
    cases hc : colOf T2.last with
    | none =>
      have e : T2 = F := by rw [← hF2, iter_done hc]
      have e0 : V.bl (!decide (colV none = V.non)) = V.bl false := by
        rw [show colV none = V.non from rfl, decide_eq_true rfl]; rfl
      refine ⟨_, rfl, rfl, false, e0, iteF ?_⟩
      exact q _ (by rw [← e]; exact hx2)
    | some s0 =>
      obtain ⟨h1, h2, h3⟩ := colOf_some hc
      obtain ⟨r0, hp, B⟩ := G2.row hc
      have hnx : next T2 = turn T2 r0 s0 := by
        unfold Mi.next
        simp only [hc, hp]
      cases j with
      | zero => exact absurd (show colOf T2.last = none by rw [show T2 = F from hF2]; exact hd) (by rw [hc]; simp)
      | succ j =>
        have G3 := G2.turn B
        have e0 : V.bl (!decide (colV (some s0) = V.non)) = V.bl true := by
          rw [decide_eq_false (by intro z; cases z)]; rfl
        refine ⟨_, rfl, rfl, true, e0, ?_⟩
        refine iteT ⟨SolveW K H0 t many m n W A c F j, fun σ H' z => ⟨j, Nat.lt_succ_self _, z⟩, ?_⟩
        refine ⟨_, rfl, t, dx2, _, rfl, x2.ob, nat2, ?_⟩
        refine ⟨_, rfl, t, dx2, _, rfl, x2.ob, nat3, ?_⟩
        refine ⟨_, rfl, ?_⟩
        refine ⟨t, H0, many, m, n, T2, s0, r0, T2.base.getD r0 0, ratio T2 r0 s0, rfl, hx2, G2.wf, ?_⟩
        refine ⟨by omega, by omega, hn, fun i j hi hj => G2.szT hm hi hj, by rw [← G2.wf.rows]; exact hp, fun H3 s3 => ?_⟩
        refine ⟨_, rfl, ?_⟩
        refine ⟨t, H0, many, m, n, T2, r0, s0, rfl, ⟨dx2, lr2, ll2, lb2, rs2, x2.same s3⟩, G2.wf, ?_⟩
        refine ⟨B.hr, by omega, by omega, hn, fun i j hi hj => G2.szT hm hi hj, fun j hj => G2.szZ hm hW hj, fun j hj => G3.szT hm B.hr hj, B.pos, fun H4 hx4 => ?_⟩
        obtain ⟨dx4, lr4, ll4, lb4, rs4, x4⟩ := id hx4
        have lw4 := G3.wf.last
        refine ⟨_, rfl, t, dx4, _, rfl, x4.ob, nat, ?_⟩
        refine ⟨t, H0, many, turn T2 r0 s0, rfl, hx4, ?_⟩
        refine ⟨by omega, by omega, turn T2 r0 s0, rfl, hx4, G3, ?_⟩
        rw [← hnx]
        exact hF2
theorem C_solved : Cb P w K mg base "solved" 7 ["teller"] (spSolved K) := by
  refine cb_of T d_solved n_solved rfl m_glo_solved sc_solved ba_solved ?_ ?_
  · rintro vs H Q E ⟨tl, ws, ss, rfl, _⟩; rfl
  · rintro f cdv A' outer s' H vs Q E hr ⟨tl, ws, ss, rfl, hT, v, q⟩
    refine ⟨_, (pss_cons (ps_set (i := 1) sc_solved.nd rfl (Or.inl rfl) (pe_mk (M_Table T) (hr.mono (by decide)) (by rfl) (pa_cons (pv 0) pa_nil)))
    (pss_cons (ps_expr (pe_cm0 (C_solve T) (hr.mono (by decide)) (pv 1)))
    (pss_one (ps_ret (pv 1))))), ?_⟩
    have n5 := v.n5
    have m5 := v.m5
    refine ⟨_, rfl, fun x dx hx hdx hne => ?_⟩
    refine ⟨x, tl, dx, ws, ss, H, rfl, upd_same, hT, v, same_newt (same_new hdx) (by rw [upd_ne (Ne.symm hne)]; exact hx), hx, fun H1 h1 => ⟨rfl, ?_⟩⟩
    obtain ⟨dx1, lr, ll, lb, rs, x1⟩ := id h1
    obtain ⟨k, hk, hd⟩ := final_spec v.valid
    have nat : (TabF ws.length lr ll lb).lookup ("solve" : Str) = none := tabF_no _ _ _ _ (by decide +kernel) (by decide +kernel) (by decide +kernel) (by decide +kernel)
    refine ⟨_, rfl, x, dx1, _, rfl, x1.ob, nat, ?_⟩
    refine ⟨x, H, ws.length, ss.length, ws.length + ss.length, 1000000, _, _, init ws ss, final ws ss, k, rfl, h1, init_good v.valid, m5, ?_⟩
    refine ⟨by omega, Nat.le_refl _, hk, hd, fun H2 h2 => ?_⟩
    obtain ⟨_, _, _, _, _, x2⟩ := id h2
    exact ⟨_, rfl, q x H2 x2.old h2⟩
theorem C_share_of : Cb P w K mg base "share_of" 3 ["teller", "value"] (spShare K) := by
  refine cb_of T d_share_of n_share_of rfl m_glo_share_of sc_share_of ba_share_of ?_ ?_
  · rintro vs H Q E ⟨tl, va, ws, ss, p, rfl, _⟩; rfl
  · rintro f cdv A' outer s' H vs Q E hr ⟨tl, va, ws, ss, p, rfl, hT, v, hF, hz, q⟩
    refine ⟨_, (pss_one (ps_ret (pe_cb (C_fraction T) (hr.mono (by decide)) (by rfl) (pa_cons (pe_ix (ixT (K := K) rfl) (pv 1) pe_int (fun _ _ => rfl)) (pa_cons (pe_op op_mulW (pe_ix (ixT (K := K) rfl) (pv 1) pe_int (fun _ _ => rfl)) (pe_callB (crSumT (K := K) rfl rfl) (by rfl) (T.free "sum" m_free_sum) bt_sum (pa_cons (pe_cp (C_weights T) (hr.mono (by decide)) (pv 0) rfl) pa_nil))) pa_nil))))), ?_⟩
    obtain ⟨dxt, h, hw, hs, g1, g2, g3, hS⟩ := hT.ex
    have n5 := v.n5
    have n2 := v.n2
    have hsum := sum_ws v.wt
    refine ⟨_, rfl, va, _, _, _, rfl, rfl, hF, rfl, ?_⟩
    refine ⟨_, rfl, va, _, _, _, rfl, rfl, hF, rfl, ?_⟩
    refine ⟨_, rfl, tl, dxt, _, rfl, g1, ?_⟩
    refine ⟨tl, dxt, h, hw, hs, rfl, g1, g2, ?_⟩
    refine ⟨hw, ws, rfl, g3, ?_⟩
    have hS0 : ws.sum.natAbs < 2 ^ 32 := by
      have : (2 : Nat) ^ 32 = 4294967296 := by decide
      omega
    refine ⟨_, _, rfl, rfl, mul_ok (sz_nat hz) hS0 (by decide), ?_⟩
    refine ⟨_, _, 100, rfl, Int.mul_pos (den_pos p) (by omega), Nat.lt_of_lt_of_le hz.num (Nat.pow_le_pow_right (by decide) (by decide)), Nat.lt_of_lt_of_le (natAbs_lt_mul (sz_nat hz) hS0) (Nat.pow_le_pow_right (by decide) (by decide)), by decide, fun a ha => ?_⟩
    rw [share_div p (by omega)]
    exact q a _ ha (same_new ha) FrAt.new
theorem C_sure_for : Cb P w K mg base "sure_for" 8 ["teller"] (spSure K) := by
  refine cb_of T d_sure_for n_sure_for rfl m_glo_sure_for sc_sure_for ba_sure_for ?_ ?_
  · rintro vs H Q E ⟨tl, ws, ss, rfl, _⟩; rfl
  · rintro f cdv A' outer s' H vs Q E hr ⟨tl, ws, ss, rfl, hT, v, q⟩
    refine ⟨_, (pss_one (ps_ret (pe_cb (C_share_of T) (hr.mono (by decide)) (by rfl) (pa_cons (pv 0) (pa_cons (pe_ix (ixL (K := K) rfl) (peF (K := K) rfl (pe_cb (C_solved T) (hr.mono (by decide)) (by rfl) (pa_cons (pv 0) pa_nil)) rfl) (pe_un un_neg pe_int) (fun _ _ => rfl)) pa_nil))))), ?_⟩
    have n5 := v.n5
    have m5 := v.m5
    refine ⟨_, rfl, _, rfl, tl, ws, ss, rfl, hT, v, fun t H1 s1 h1 => ?_⟩
    obtain ⟨dx1, lr, ll, lb, rs, x1⟩ := id h1
    obtain ⟨k, hk, hd⟩ := final_spec v.valid
    have G := (init_good v.valid).iter k
    rw [hk] at G
    have lw := G.wf.last
    obtain ⟨as, ha, hA⟩ := x1.last
    have la : (as.map V.ref).length = ws.length + ss.length + 1 := by rw [List.length_map, hA.len]; exact lw
    obtain ⟨an, ean, fan⟩ := frat_get hA (i := ws.length + ss.length) (by omega)
    refine ⟨t, _, dx1, _, _, rfl, x1.ob, T.cls "Table" m_cls_Table, T.noat "Table" "last" m_noat_Table_last, tabF_last _ _ _ _, ?_⟩
    refine ⟨_, rfl, ll, _, _, _, rfl, rfl, .inl (.inl ha), atI_end (by rw [la, Nat.add_sub_cancel]; exact ref_get ean), ?_⟩
    refine ⟨tl, an, ws, ss, _, rfl, hT.same s1, v, fan, G.szZ m5 (Nat.le_refl _) (by omega), fun a H2 hna s2 fa => ?_⟩
    exact q a H2 (s1.trans s2) fa
theorem C_sure_chance : Cb P w K mg base "sure_chance" 9 ["teller"] (spSure K) := by
  refine cb_of T d_sure_chance n_sure_chance rfl m_glo_sure_chance sc_sure_chance ba_sure_chance ?_ ?_
  · rintro vs H Q E ⟨tl, ws, ss, rfl, _⟩; rfl
  · rintro f cdv A' outer s' H vs Q E hr ⟨tl, ws, ss, rfl, hT, v, q⟩
    refine ⟨_, (pss_cons (ps_expr (pe_cb (C_check_teller T) (hr.mono (by decide)) (by rfl) (pa_cons (pv 0) pa_nil)))
    (pss_one (ps_ret (pe_cb (C_sure_for T) (hr.mono (by decide)) (by rfl) (pa_cons (pv 0) pa_nil))))), ?_⟩
    refine ⟨_, rfl, tl, ws, ss, rfl, hT, ?_⟩
    exact ⟨_, rfl, tl, ws, ss, rfl, hT, v, q⟩
end
end Kg

set_option maxHeartbeats 4000000
/-! The walk: pairs, what is forbidden, gains. -/
namespace Kg
open PySem PySem.Spec PyProof.Rows L2 Mi StX
abbrev PairAt (K : PySem.W.Frag) (H : Hp) (a : Addr) (p : Nat × Nat) : Prop := SqT K H a [nV p.1, nV p.2]
/-- all pairs of a case and a saying that may be said in it -/
def prs (ss : List (List Nat)) (n : Nat) : List (Nat × Nat) := (List.range n).flatMap fun k => (said ss k).map fun s => (k, s)
theorem prs_succ (ss : List (List Nat)) (n : Nat) : prs ss (n + 1) = prs ss n ++ (said ss n).map fun s => (n, s) := by
  unfold prs
  rw [List.range_succ, List.flatMap_append]
  simp
theorem said_len (ss : List (List Nat)) (k : Nat) : (said ss k).length ≤ ss.length := by
  unfold said
  exact Nat.le_trans (List.length_filter_le _ _) (by simp)
theorem prs_len (ss : List (List Nat)) : ∀ n, (prs ss n).length ≤ n * ss.length
  | 0 => by simp [prs]
  | n + 1 => by
    have h1 := prs_len ss n
    have h2 := said_len ss n
    rw [prs_succ, List.length_append, List.length_map, Nat.succ_mul]
    omega
theorem prs_mem {ss : List (List Nat)} {n : Nat} {p : Nat × Nat} (h : p ∈ prs ss n) : p.1 < n ∧ p.2 < ss.length := by
  unfold prs said at h
  simp only [List.mem_flatMap, List.mem_range, List.mem_map, List.mem_filter] at h
  obtain ⟨k, hk, s, ⟨hs, _⟩, rfl⟩ := h
  exact ⟨hk, hs⟩
theorem pair_kp {K : PySem.W.Frag} {H H' : Hp} {v : Addr} {as : List Addr} {ps : List (Nat × Nat)} {ys : List V} (e : Kp v H H') (hv : H v = some (.lst ys)) (h : AllAt (PairAt K H) as ps) : AllAt (PairAt K H') as ps := h.imp fun _ _ z => sqT_kp e hv z
theorem pair_same {K : PySem.W.Frag} {H H' : Hp} {as : List Addr} {ps : List (Nat × Nat)} (e : Same H H') (h : AllAt (PairAt K H) as ps) : AllAt (PairAt K H') as ps := h.imp fun _ _ z => sqT_same e z
def spPairsIn (K : PySem.W.Frag) : Sp := fun vs H Q _ => ∃ (tl : Addr) (ws : List Int) (ss : List (List Nat)), vs = [.ref tl] ∧ TelAt K H tl ws ss ∧ ws.length ≤ 5 ∧ ss.length ≤ 5 ∧
  ∀ l H' as, H l = none → Same H H' → H' l = some (.lst (as.map V.ref)) → AllAt (PairAt K H') as (prs ss ws.length) → Q (.ref l) H'
/-- a step of a loop that makes the list at lf longer; all that was is as it was -/
structure LInv (K : PySem.W.Frag) (H Hc : Hp) (lf : Addr) (ps : List (Nat × Nat)) : Prop where
  fr : H lf = none
  old : Same H Hc
  ex : ∃ as : List Addr, Hc lf = some (.lst (as.map V.ref)) ∧ AllAt (PairAt K Hc) as ps
section
variable {P : Program} {w : World} {K : PySem.W.Frag} {mg : Str → Option Value} {base : Heap} (T : Tx K mg)
include T
theorem C_pairs_in : Cb P w K mg base "pairs_in" 3 ["teller"] (spPairsIn K) := by
  refine cb_of T d_pairs_in n_pairs_in rfl m_glo_pairs_in sc_pairs_in ba_pairs_in ?_ ?_
  · rintro vs H Q E ⟨tl, ws, ss, rfl, _⟩; rfl
  · rintro f cdv A outer s H vs Q E hr ⟨tl, ws, ss, rfl, ht, n5, m5, q⟩
    refine ⟨_, (pss_cons (ps_set (i := 1) sc_pairs_in.nd rfl (Or.inl rfl) (pe_lst pa_nil))
    (pss_cons (ps_for PassesOwn.never rfl (pi_range1 (by rfl) (T.free "range" m_free_range) (pa_cons (pe_callB (callLen (K := K) rfl) (by rfl) (T.free "len" m_free_len) bt_len (pa_cons (pe_cp (C_weights T) (hr.mono (by decide)) (pv 0) rfl) pa_nil)) pa_nil)) (pg_name (i := 2) sc_pairs_in.nd rfl (Or.inr rfl))
      (pss_one (ps_expr (pe_bm PySem.F.plainAttrs_list PySem.F.slot_list_extend PySem.F.type_list_extend mt_extend (pv 1) (pa_cons (pe_lc (own := [("saying", 3)]) (by rfl) sc_pairs_in.nd (piT (K := K) rfl (pe_cm (C_said_in T) (hr.mono (by decide)) (pv 0) (pa_cons (pv 2) pa_nil))) (blkOk_by (own := [("saying", 3)]) (N := N_pairs_in) (sc := defScope s_pairs_in) (by decide +kernel)) (fun _ _ _ _ _ => pg_name (i := 3) sc_pairs_in.nd rfl (Or.inl rfl)) (fun _ _ _ _ _ => pts_nil) (fun _ _ _ _ _ => (pe_tup (pa_cons (pv 2) (pa_cons (pv 3) pa_nil))))) pa_nil)))))
    (pss_one (ps_ret (pv 1))))), ?_⟩
    obtain ⟨dxt, h, hw, hs, g1, g2, g3, hS⟩ := ht.ex
    have hlw : (ws.map V.int).length = ws.length := List.length_map _
    refine ⟨(by show 0 ≤ sizeLine; decide), fun lf hlf => ?_⟩
    have s1 := same_new (o := .lst []) hlf
    have l1 := upd_same (H := H) (a := lf) (o := .lst [])
    generalize upd H lf (.lst []) = H1 at s1 l1 ⊢
    refine ⟨_, rfl, tl, dxt, _, rfl, s1 _ _ g1, ?_⟩
    refine ⟨tl, dxt, h, hw, hs, rfl, s1 _ _ g1, sqT_same s1 g2, ?_⟩
    refine ⟨hw, _, rfl, .inr (sqT_same s1 g3), _, rfl, ?_, ?_, ?_⟩
    · rw [hlw]; omega
    · rw [hlw]; omega
    rw [hlw]
    refine for_range (lo := 0) (n := ((ws.length : Nat) : Int).toNat) (fun i σ Hc => ∃ y z, σ = [some (.ref tl), some (.ref lf), y, z] ∧ LInv K H Hc lf (prs ss i)) ⟨none, none, rfl, hlf, s1, [], l1, AllAt.nil⟩ ?_ ?_
    · rintro i σ Hc hi ⟨y, z, rfl, _, sc, as, lc, hA⟩
      have hin : i < ws.length := by omega
      rw [show V.int (0 + (i : Int)) = nV i by rw [Int.zero_add]]
      refine ⟨_, rfl, .inl ⟨rfl, _, .inl (.inl lc)⟩, ?_⟩
      refine ⟨_, rfl, tl, dxt, _, rfl, sc _ _ g1, telF_no h (by decide +kernel), _, rfl, ?_⟩
      refine ⟨tl, ws, ss, i, rfl, ht.same sc, by omega, fun p H2 s2 hp hnp => ?_⟩
      refine ⟨p, rfl, ⟨_, .inl (.inl hp)⟩, fun D hD => ?_⟩
      have hlp : ((said ss i).map nV).length = (said ss i).length := List.length_map _
      have hsl := said_len ss i
      refine lc_run (walk_tup (K := K) (a := p) (xs := (said ss i).map nV)) hD (fun j Hq acc => ∃ cs : List Addr, acc = cs.map V.ref ∧ AllAt (PairAt K Hq) cs (((said ss i).take j).map fun s => (i, s))) (fun _ se => .inl (.inl (se _ _ hp))) ?_ (fun _ _ => ⟨[], rfl, by rw [List.take_zero]; exact AllAt.nil⟩) (by rw [hlp]; exact line_of (by omega)) ?_ ?_
      · rintro j He1 He2 acc ys hy hk ⟨cs, e, hC⟩
        exact ⟨cs, e, pair_kp hk hy hC⟩
      · rintro j xx Hq H' acc k k0 hj se hacc hal ⟨cs, rfl, hC⟩ ⟨rfl, hx⟩ hk _
        obtain ⟨x1, hx1, rfl⟩ := map_get hx
        refine ⟨rfl, _, rfl, _, rfl, (by show 2 ≤ sizeLine; decide), fun a ha => ?_⟩
        have sp := same_new (o := .tup [nV i, nV x1]) ha
        refine hk _ _ sp ⟨cs ++ [a], by rw [List.map_append]; rfl, ?_⟩
        rw [List.take_succ, hx1, List.map_append]
        exact (pair_same sp hC).snoc (.inl (.inl upd_same))
      · rintro Hq acc se hacc hal ⟨cs, rfl, hC⟩
        rw [hlp, List.take_length] at hC
        have lq := se _ _ (s2 _ _ lc)
        refine ⟨lf, D, _, _, rfl, rfl, lq, hacc, ?_, ?_⟩
        · have h1 := prs_len ss i
          have h2 := hA.len
          have h3 := hC.len
          have h4 : i * ss.length ≤ 5 * 5 := Nat.mul_le_mul (by omega) m5
          simp only [List.length_map] at h3 ⊢
          exact line_of (by omega)
        refine ⟨_, _, rfl, hlf, fun b u e => ?_, as ++ cs, ?_, ?_⟩
        · rw [upd_ne (ne_of_none e hlf)]
          exact se _ _ (s2 _ _ (sc _ _ e))
        · rw [upd_same, List.map_append]
        · rw [prs_succ]
          have s3 := s2.trans se
          exact pair_kp kp_upd lq (AllAt.app (pair_same s3 hA) hC)
    · rintro σ Hc ⟨y, z, rfl, _, sc, as, lc, hA⟩
      rw [Int.toNat_natCast] at hA
      exact ⟨_, rfl, q lf Hc as hlf sc lc hA⟩
end
end Kg

set_option maxHeartbeats 4000000
/-! The walk: what is forbidden. -/
namespace Kg
open PySem PySem.Spec PyProof.Rows L2 Mi StX
def lessS (ss : List (List Nat)) (p : Nat × Nat) : List (List Nat) := (List.range ss.length).map fun i => (ss.getD i []).filter fun c => !decide (p = (c, i))
def lessOk (n : Nat) (ss : List (List Nat)) : Bool := !decide (([] : List Nat) ∈ ss) && (List.range n).all fun k => ss.any fun cs => decide (k ∈ cs)
theorem lessS_len (ss : List (List Nat)) (p : Nat × Nat) : (lessS ss p).length = ss.length := by unfold lessS; simp
theorem lessS_get {ss : List (List Nat)} {p : Nat × Nat} {i : Nat} (hi : i < ss.length) : (lessS ss p)[i]? = some ((ss.getD i []).filter fun c => !decide (p = (c, i))) := by
  unfold lessS
  rw [List.getElem?_map, List.getElem?_range hi]; rfl
theorem Val.less {ws : List Int} {ss : List (List Nat)} (v : Val ws ss) {p : Nat × Nat} (h : lessOk ws.length (lessS ss p) = true) : Val ws (lessS ss p) := by
  unfold lessOk at h
  rw [Bool.and_eq_true] at h
  obtain ⟨h1, h2⟩ := h
  refine ⟨v.n2, v.n5, v.wt, fun z => v.m1 ?_, by rw [lessS_len]; exact v.m5, fun cs hc => ⟨fun z => ?_, ?_, ?_⟩, fun k hk => ?_⟩
  · have := lessS_len ss p
    rw [z] at this
    exact List.length_eq_zero_iff.mp this.symm
  · rw [z] at hc
    simp [hc] at h1
  · unfold lessS at hc
    obtain ⟨i, hi, rfl⟩ := List.mem_map.mp hc
    rw [List.mem_range] at hi
    have hm : ss.getD i [] ∈ ss := by rw [List.getD_eq_getElem?_getD, List.getElem?_eq_getElem hi]; exact List.getElem_mem _
    exact ((v.row _ hm).2.1).filter _
  · unfold lessS at hc
    obtain ⟨i, hi, rfl⟩ := List.mem_map.mp hc
    rw [List.mem_range] at hi
    have hm : ss.getD i [] ∈ ss := by rw [List.getD_eq_getElem?_getD, List.getElem?_eq_getElem hi]; exact List.getElem_mem _
    exact fun c hc => (v.row _ hm).2.2 c (List.mem_filter.mp hc).1
  · rw [List.all_eq_true] at h2
    have := h2 k (List.mem_range.mpr hk)
    obtain ⟨cs, e1, e2⟩ := List.any_eq_true.mp this
    exact ⟨cs, e1, of_decide_eq_true e2⟩
def pairD (p : Nat × Nat) : PyData := .tuple [dI p.1, dI p.2]
theorem pairD_eq (p q : Nat × Nat) : PyData.eqv (pairD p) (pairD q) = decide (p = q) := by
  have e : PyData.eqv (pairD p) (pairD q) = (((p.1 : Int) == (q.1 : Int)) && (((p.2 : Int) == (q.2 : Int)) && true)) := by
    simp only [pairD, PyData.eqv, PyData.eqvAll]
  rw [e, Bool.eq_iff_iff, decide_eq_true_iff]
  obtain ⟨a, b⟩ := p
  obtain ⟨c, d⟩ := q
  simp only [Bool.and_eq_true, beq_iff_eq, and_true, Prod.mk.injEq]
  omega
theorem pairDp {K : PySem.W.Frag} {H : Hp} {a : Addr} {p : Nat × Nat} (h : PairAt K H a p) : Dp K H (.ref a) (pairD p) := .tup h (.cons (.int _) (.cons (.int _) .nil))
theorem any_nil (ss : List (List Nat)) : ((ss.map lotD).any fun z => PyData.eqv z (.tuple [])) = decide (([] : List Nat) ∈ ss) := by
  rw [Bool.eq_iff_iff, List.any_eq_true, decide_eq_true_iff]
  constructor
  · rintro ⟨z, hz, e⟩
    obtain ⟨cs, hc, rfl⟩ := List.mem_map.mp hz
    cases cs with
    | nil => exact hc
    | cons c cs => exact absurd e (by rw [lot_ne (by simp)]; decide)
  · intro h
    exact ⟨lotD [], List.mem_map.mpr ⟨[], h, rfl⟩, by rfl⟩
theorem filt_snoc (f : Nat → Bool) (l : List Nat) {j x : Nat} (h : l[j]? = some x) : (l.take (j + 1)).filter f = (l.take j).filter f ++ if f x = true then [x] else [] := by
  rw [List.take_succ, h, List.filter_append]
  congr 1
  by_cases e : f x = true
  · rw [if_pos e]
    show List.filter f [x] = [x]
    rw [List.filter_cons_of_pos e]; rfl
  · rw [if_neg e]
    show List.filter f [x] = []
    rw [List.filter_cons_of_neg e]; rfl
theorem all_snoc (f : Nat → Bool) (i : Nat) : ((List.range i).map f).map V.bl ++ [V.bl (f i)] = ((List.range (i + 1)).map f).map V.bl := by
  rw [List.range_succ, List.map_append, List.map_append]; rfl
def LotsAt (K : PySem.W.Frag) (H : Hp) (as : List Addr) (ss : List (List Nat)) : Prop := AllAt (fun a cs => SqT K H a (cs.map nV)) as ss
theorem LotsAt.same {K : PySem.W.Frag} {H H' : Hp} {as : List Addr} {ss : List (List Nat)} (e : Same H H') (h : LotsAt K H as ss) : LotsAt K H' as ss := h.imp fun _ _ z => sqT_same e z
theorem LotsAt.kp {K : PySem.W.Frag} {H H' : Hp} {v : Addr} {as : List Addr} {ss : List (List Nat)} {ys : List V} (e : Kp v H H') (hv : H v = some (.lst ys)) (h : LotsAt K H as ss) : LotsAt K H' as ss := h.imp fun _ _ z => sqT_kp e hv z
structure SInv (K : PySem.W.Frag) (H Hc : Hp) (l : Addr) (ss : List (List Nat)) : Prop where
  fr : H l = none
  old : Same H Hc
  ex : ∃ as : List Addr, Hc l = some (.lst (as.map V.ref)) ∧ LotsAt K Hc as ss
def spForbid (K : PySem.W.Frag) : Sp := fun vs H Q _ => ∃ (tl pr pa : Addr) (ws : List Int) (ss : List (List Nat)) (p : Nat × Nat), vs = [.ref tl, .ref pr] ∧ TelAt K H tl ws ss ∧ Val ws ss ∧ SqT K H pr [.ref pa] ∧ PairAt K H pa p ∧
  (lessOk ws.length (lessS ss p) = false → ∀ H', Same H H' → Q .non H') ∧ (lessOk ws.length (lessS ss p) = true → ∀ t H', Same H H' → TelAt K H' t ws (lessS ss p) → Q (.ref t) H')
section
variable {P : Program} {w : World} {K : PySem.W.Frag} {mg : Str → Option Value} {base : Heap} (T : Tx K mg)
include T
theorem C_forbidden : Cb P w K mg base "forbidden" 7 ["teller", "pairs"] (spForbid K) := by
  refine cb_of T d_forbidden n_forbidden rfl m_glo_forbidden sc_forbidden ba_forbidden ?_ ?_
  · rintro vs H Q E ⟨tl, pr, pa, ws, ss, p, rfl, _⟩; rfl
  · rintro f cdv A outer s H vs Q E hr ⟨tl, pr, pa, ws, ss, p, rfl, ht, v, hpr, hpa, qN, qT⟩
    refine ⟨_, (pss_cons (ps_set (i := 2) sc_forbidden.nd rfl (Or.inr rfl) (pe_lst pa_nil))
    (pss_cons (ps_for PassesOwn.never rfl (piE (K := K) rfl (by rfl) (T.free "enumerate" m_free_enumerate) (pa_cons (pe_cp (C_sayings T) (hr.mono (by decide)) (pv 0) rfl) pa_nil)) (pgT (K := K) (n := 2) rfl (by rfl) (pgs_cons (pg_name (i := 3) sc_forbidden.nd rfl (Or.inr rfl)) (pgs_cons (pg_name (i := 4) sc_forbidden.nd rfl (Or.inl rfl)) (pgs_nil))))
      (pss_one (ps_expr (pe_bm PySem.F.plainAttrs_list PySem.F.slot_list_append PySem.F.type_list_append mt_append (pv 2) (pa_cons (pe_callTy (callTup (K := K) rfl) (by rfl) (T.free "tuple" m_free_tuple) bt_tuple (pa_cons (pe_lc (own := [("case", 5)]) (by rfl) sc_forbidden.nd (piT (K := K) rfl (pv 4)) (blkOk_by (own := [("case", 5)]) (N := N_forbidden) (sc := defScope s_forbidden) (by decide +kernel)) (fun _ _ _ _ _ => pg_name (i := 5) sc_forbidden.nd rfl (Or.inl rfl)) (fun _ _ _ _ _ => pts_one (pt_cmpR (opNotInDD (K := K) rfl hr.units) (pe_tup (pa_cons (pv 5) (pa_cons (pv 3) pa_nil))) (pv 1) (by rfl))) (fun _ _ _ _ _ => (pv 5))) pa_nil)) pa_nil)))))
    (pss_cons (ps_if (pt_cmpR (opInDD (K := K) rfl hr.units) (pe_tup pa_nil) (pv 2) (by rfl))
      (pss_one (ps_ret pe_non))
      pss_nil)
    (pss_cons (ps_if (pt_not (pt_val (pe_callB (crAll (K := K) rfl rfl) (by rfl) (T.free "all" m_free_all) bt_all (pa_cons (pe_lc (own := [("case", 5)]) (by rfl) sc_forbidden.nd (pi_range1 (by rfl) (T.free "range" m_free_range) (pa_cons (pe_callB (callLen (K := K) rfl) (by rfl) (T.free "len" m_free_len) bt_len (pa_cons (pe_cp (C_weights T) (hr.mono (by decide)) (pv 0) rfl) pa_nil)) pa_nil)) (blkOk_by (own := [("case", 5)]) (N := N_forbidden) (sc := defScope s_forbidden) (by decide +kernel)) (fun _ _ _ _ _ => pg_name (i := 5) sc_forbidden.nd rfl (Or.inr rfl)) (fun _ _ _ _ _ => pts_nil) (fun _ _ _ _ _ => (pe_callB (crAny (K := K) rfl rfl) (by rfl) (T.free "any" m_free_any) bt_any (pa_cons (pe_lc (own := [("cases", 4)]) (by rfl) sc_forbidden.nd (piL (K := K) rfl (pv 2)) (blkOk_by (own := [("cases", 4)]) (N := N_forbidden) (by rfl)) (fun _ _ _ _ _ => pg_name (i := 4) sc_forbidden.nd rfl (Or.inl rfl)) (fun _ _ _ _ _ => pts_nil) (fun _ _ _ _ _ => (pe_cmpR (opIn (K := K) rfl) (pv 5) (pv 4) (by rfl)))) pa_nil)))) pa_nil))))
      (pss_one (ps_ret pe_non))
      pss_nil)
    (pss_one (ps_ret (pe_mk (M_Teller T) (hr.mono (by decide)) (by rfl) (pa_cons (pe_cp (C_weights T) (hr.mono (by decide)) (pv 0) rfl) (pa_cons (pe_callTy (callTup (K := K) rfl) (by rfl) (T.free "tuple" m_free_tuple) bt_tuple (pa_cons (pv 2) pa_nil)) pa_nil))))))))), ?_⟩
    obtain ⟨dxt, h, hw, hs, g1, g2, g3, hS⟩ := ht.ex
    obtain ⟨as, ha, hA⟩ := id hS
    have hlw : (ws.map V.int).length = ws.length := List.length_map _
    have hls : (as.map V.ref).length = ss.length := by rw [List.length_map, hA.len]
    have n5 := v.n5
    have m5 := v.m5
    refine ⟨(by show 0 ≤ sizeLine; decide), fun lf hlf => ?_⟩
    have s1 := same_new (o := .lst []) hlf
    have l1 := upd_same (H := H) (a := lf) (o := .lst [])
    generalize upd H lf (.lst []) = H1 at s1 l1 ⊢
    refine ⟨_, rfl, tl, dxt, _, rfl, s1 _ _ g1, ?_⟩
    refine ⟨tl, dxt, h, hw, hs, rfl, s1 _ _ g1, sqT_same s1 g2, ?_⟩
    refine ⟨hs, _, rfl, sqT_same s1 ha, ?_⟩
    refine for_it (walk_enumT (K := K) (a := hs) (xs := as.map V.ref)) (fun i σ Hc => ∃ x y z, σ = [some (.ref tl), some (.ref pr), some (.ref lf), x, y, z] ∧ SInv K H Hc lf ((lessS ss p).take i)) ⟨none, none, none, rfl, hlf, s1, [], l1, AllAt.nil⟩ (fun i σ Hc _ ⟨_, _, _, _, z⟩ => sqT_same z.old ha) ?_ ?_
    · rintro i xx σ Hc H' hi ⟨x0, y0, z0, rfl, _, sc, bs, lc, hB⟩ ⟨Tt, u, vv, rfl, hTt, rfl, hu, hv⟩
      cases hu
      obtain ⟨z, hz, rfl⟩ := map_get hv
      rw [hls] at hi
      have hcs : ss[i]? = some ss[i] := List.getElem?_eq_getElem hi
      have hgd : ss.getD i [] = ss[i] := by rw [List.getD_eq_getElem?_getD, hcs]; rfl
      have sT : Same Hc (upd Hc Tt (.tup [.int (i : Nat), .ref z])) := same_new hTt
      have hTt2 : (upd Hc Tt (.tup [.int (i : Nat), .ref z])) Tt = some (.tup [.int (i : Nat), .ref z]) := upd_same
      generalize upd Hc Tt (.tup [.int (i : Nat), .ref z]) = Hd at sT hTt2 ⊢
      have sd := sc.trans sT
      have hzT : SqT K H z (ss[i].map nV) := hA.at_ i z _ hz hcs
      have r4 := v.short (List.mem_of_getElem? hcs)
      have hlz : (ss[i].map nV).length = ss[i].length := List.length_map _
      refine ⟨Tt, _, rfl, .inl (.inl hTt2), rfl, _, _, rfl, _, _, rfl, rfl, ?_⟩
      refine ⟨_, rfl, .inl ⟨rfl, _, .inl (.inl (sT _ _ lc))⟩, ?_⟩
      refine ⟨_, rfl, z, rfl, ⟨_, sqT_same sd hzT⟩, fun D hD => ?_⟩
      refine lc_run (walk_tup (K := K) (a := z) (xs := ss[i].map nV)) hD (fun j Hq acc => acc = (((ss[i].take j).filter fun c => !decide (p = (c, i))).map nV)) (fun _ se => sqT_same (sd.trans se) hzT) (fun _ _ _ _ _ _ _ h => h) (fun _ _ => rfl) (by rw [hlz]; exact line_of (by omega)) ?_ ?_
      · rintro j xx Hq H' acc k k0 hj se hacc hal rfl ⟨rfl, hx⟩ hk hk0
        obtain ⟨x1, hx1, rfl⟩ := map_get hx
        have e := filt_snoc (fun c => !decide (p = (c, i))) ss[i] hx1
        refine ⟨rfl, _, rfl, _, rfl, (by show 2 ≤ sizeLine; decide), fun a ha1 => ?_⟩
        have sp := same_new (o := .tup [nV x1, nV i]) ha1
        have hpn : PairAt K (upd H' a (.tup [nV x1, nV i])) a (x1, i) := .inl (.inl upd_same)
        refine ⟨_, rfl, pairD (x1, i), [pairD p], pairDp hpn, .inr (.tup (sqT_same (sd.trans (se.trans sp)) hpr) (.cons (pairDp (sqT_same (sd.trans (se.trans sp)) hpa)) .nil)), by rfl, by rfl, (by simp only [pairD, PyData.depth, PyData.depthAll]; omega), _, rfl, ?_⟩
        rw [show (true ^^ ([pairD p].any fun z => PyData.eqv z (pairD (x1, i)))) = !decide (p = (x1, i)) by
          simp only [List.any_cons, List.any_nil, Bool.or_false, Bool.true_xor, pairD_eq]]
        refine ite2 (fun c => ⟨_, rfl, hk _ _ sp ?_⟩) (fun c => hk0 _ sp ?_)
        · rw [e, if_pos c, List.map_append]; rfl
        · rw [e, if_neg (by simpa using c), List.append_nil]
      · rintro Hq acc se hacc hal rfl
        rw [hlz, List.take_length] at hacc
        refine ⟨D, _, rfl, .inl ⟨.inl (.inl hacc), fun pt hpt => ?_⟩⟩
        have lq := se _ _ (sT _ _ lc)
        have spt := same_new (o := .tup ((ss[i].filter fun c => !decide (p = (c, i))).map nV)) hpt
        have scq : Same Hc Hq := sT.trans se
        refine ⟨lf, _, _, rfl, rfl, spt _ _ lq, ?_, ?_⟩
        · rw [List.length_map, hB.len, List.length_take]
          have := lessS_len ss p
          exact Nat.lt_of_le_of_lt (Nat.min_le_right _ _) (small1000 (by omega))
        refine ⟨_, _, _, rfl, hlf, fun b u e => ?_, bs ++ [pt], ?_, ?_⟩
        · rw [upd_ne (ne_of_none e hlf)]
          exact spt _ _ (se _ _ (sT _ _ (sc _ _ e)))
        · rw [upd_same, List.map_append]; rfl
        · rw [List.take_succ, lessS_get hi, hgd]
          refine LotsAt.kp kp_upd (spt _ _ lq) ?_
          exact AllAt.snoc (LotsAt.same (scq.trans spt) hB) (.inl (.inl upd_same))
    · rintro σ Hc ⟨x0, y0, z0, rfl, _, sc, bs, lc, hB⟩
      rw [hls, ← lessS_len ss p, List.take_length] at hB
      have hm5 := lessS_len ss p
      have hl5 : (bs.map V.ref).length = (lessS ss p).length := by rw [List.length_map, hB.len]
      -- () in sayings
      refine ⟨(by show 0 ≤ sizeLine; decide), fun pe hpe => ?_⟩
      have s2 := same_new (o := .tup []) hpe
      have hE : Dp K (upd Hc pe (.tup [])) (.ref pe) (.tuple []) := emptyD
      have lc2 := s2 _ _ lc
      have hB2 := LotsAt.same s2 hB
      generalize upd Hc pe (.tup []) = H2 at s2 hE lc2 hB2 ⊢
      have sc2 := sc.trans s2
      refine ⟨_, rfl, .tuple [], (lessS ss p).map lotD, hE, .inl (.lst (.inl (.inl lc2)) (sayD hB2)), by rfl, canSay _, (by simp only [PyData.depth, PyData.depthAll]; omega), _, rfl, ?_⟩
      rw [Bool.false_xor, any_nil]
      by_cases hnil : ([] : List Nat) ∈ lessS ss p
      · rw [decide_eq_true hnil]
        refine iteT (qN ?_ _ sc2)
        unfold lessOk
        rw [decide_eq_true hnil]; rfl
      rw [decide_eq_false hnil]
      refine iteF ?_
      -- each case is in some lot
      refine ⟨_, rfl, tl, dxt, _, rfl, sc2 _ _ g1, ?_⟩
      refine ⟨tl, dxt, h, hw, hs, rfl, sc2 _ _ g1, sqT_same sc2 g2, ?_⟩
      refine ⟨hw, _, rfl, .inr (sqT_same sc2 g3), _, rfl, ?_, ?_, fun D hD => ?_⟩
      · rw [hlw]; omega
      · rw [hlw]; omega
      rw [hlw]
      refine lc_run (walk_range (lo := 0) (n := ((ws.length : Nat) : Int).toNat)) hD (fun i H acc => acc = ((List.range i).map fun k => (lessS ss p).any fun cs => decide (k ∈ cs)).map V.bl) (fun _ _ => trivial) (fun _ _ _ _ _ _ _ h => h) (fun _ _ => rfl) (line_of (by omega)) ?_ ?_
      · rintro i x H3 H' acc k k0 hi s3 hacc hal rfl ⟨rfl, rfl⟩ hk _
        refine ⟨rfl, _, rfl, lf, rfl, ⟨_, .inl (.inl (s3 _ _ lc2))⟩, fun D2 hD2 => ?_⟩
        refine lc_run (walk_list (K := K) (a := lf) (xs := bs.map V.ref)) hD2 (fun j H acc => acc = ((lessS ss p).take j).map fun cs => V.bl (decide (i ∈ cs))) (fun _ s4 => .inl (.inl (s4 _ _ (s3 _ _ lc2)))) (fun _ _ _ _ _ _ _ h => h) (fun _ _ => rfl) (by rw [hl5]; exact line_of (by omega)) ?_ ?_
        · rintro j x H4 H' acc kk kk0 hj s4 hacc3 hal3 rfl ⟨rfl, hx⟩ hkk _
          obtain ⟨z, hz, rfl⟩ := map_get hx
          rw [hl5] at hj
          have hcs : (lessS ss p)[j]? = some (lessS ss p)[j] := List.getElem?_eq_getElem hj
          have hzT := sqT_same (s3.trans s4) (hB2.at_ j z _ hz hcs)
          refine ⟨rfl, _, rfl, _, rfl, z, _, rfl, .inr hzT, rfl, flat_nat _, ?_⟩
          show kk (V.bl (inV (V.int (0 + (i : Int))) ((lessS ss p)[j].map nV))) _
          rw [Int.zero_add, inV_nat]
          exact hkk _ _ (Same.refl _) (any_snoc i (lessS ss p) j _ hcs)
        · rintro H4 acc s4 hacc3 hal3 rfl
          refine ⟨D2, (lessS ss p).map (fun cs => decide (i ∈ cs)), rfl, .inl (.inl ?_), ?_⟩
          · rw [hacc3, hl5, List.take_length, List.map_map]; rfl
          · rw [List.any_map]
            exact hk _ _ s4 (all_snoc (fun k => (lessS ss p).any fun cs => decide (k ∈ cs)) i)
      · rintro H3 acc s3 hacc hal rfl
        refine ⟨D, _, rfl, .inl (.inl hacc), ?_⟩
        rw [List.all_map, Int.toNat_natCast]
        have sc3 := sc2.trans s3
        by_cases hall : ((List.range ws.length).all fun k => (lessS ss p).any fun cs => decide (k ∈ cs)) = true
        · have ok : lessOk ws.length (lessS ss p) = true := by
            unfold lessOk
            rw [decide_eq_false hnil, hall]; rfl
          rw [show ((List.range ws.length).all (id ∘ fun k => (lessS ss p).any fun cs => decide (k ∈ cs))) = true from hall]
          refine ⟨true, rfl, iteF ?_⟩
          have v2 := v.less ok
          have hB3 := LotsAt.same s3 hB2
          have lc3 := s3 _ _ lc2
          refine ⟨_, rfl, tl, dxt, _, rfl, sc3 _ _ g1, ?_⟩
          refine ⟨tl, dxt, h, hw, hs, rfl, sc3 _ _ g1, sqT_same sc3 g2, ?_⟩
          refine ⟨_, rfl, lf, _, rfl, .inl ⟨.inl (.inl lc3), fun pt hpt => ?_⟩⟩
          have s4 := same_new (o := .tup (bs.map V.ref)) hpt
          have hSn : SayAt K (upd H3 pt (.tup (bs.map V.ref))) pt (lessS ss p) := ⟨bs, .inl (.inl upd_same), LotsAt.same s4 hB3⟩
          generalize upd H3 pt (.tup (bs.map V.ref)) = H4 at s4 hSn ⊢
          have sc4 := sc3.trans s4
          intro x dx hx hdx hne
          have s5 := same_newt (o := .ins (He.ga K "Teller") dx []) (same_new (o := .own x) hdx) (by rw [upd_ne (Ne.symm hne)]; exact hx)
          refine ⟨x, dx, hw, pt, ws, lessS ss p, rfl, upd_same, sqT_same (sc4.trans s5) g3, hSn.same s5, v2, fun H6 k6 ht6 => ⟨rfl, ?_⟩⟩
          refine qT ok x H6 (sc4.trans fun b u e => ?_) ht6
          exact k6 _ _ (s5 _ _ e) (ne_of_none e hx)
        · have ok : lessOk ws.length (lessS ss p) = false := by
            unfold lessOk
            rw [Bool.eq_false_iff.mpr hall, Bool.and_false]
          rw [show ((List.range ws.length).all (id ∘ fun k => (lessS ss p).any fun cs => decide (k ∈ cs))) = false from Bool.eq_false_iff.mpr hall]
          exact ⟨false, rfl, iteT (qN ok _ sc3)⟩
end
end Kg

set_option maxHeartbeats 4000000
/-! The walk: gains. -/
namespace Kg
open PySem PySem.Spec PyProof.Rows L2 Mi StX
/-! ### a call with nothing but one keyword -/
structure CbK (P : Program) (w : World) (K : PySem.W.Frag) (mg : Str → Option Value) (base : Heap) (x : Str) (k : Nat) (p : Str) (sp : Sp) : Prop where
  ex : ∃ f fd, FnOk P w K mg base CX0 k f fd [p] sp ∧ mg x = some (.ref f) ∧ PySem.W.keepIn K (.ref f) = true ∧ Binds K fd [p] [] ∧ KBinds K fd [p] [p] (fun us ws => us ++ ws) (fun vs zs => vs ++ zs)
theorem CbK.cb {P : Program} {w : World} {K : PySem.W.Frag} {mg : Str → Option Value} {base : Heap} {x : Str} {k : Nat} {p : Str} {sp : Sp} (c : CbK P w K mg base x k p sp) : Cb P w K mg base x k [p] sp := by
  obtain ⟨f, fd, h1, h2, h3, h4, _⟩ := c.ex
  exact ⟨f, fd, h1, h2, h3, h4⟩
abbrev BindK1 (d : He.DefD) (p : Str) : Prop := ∀ (kV doc pm : Value) (an : Option Addr) (cdv ct v : Value), bindArgs (PySem.W.fnOf d.name d.qual d.params d.body d.scope .none kV doc pm an cdv ct) ⟨[], [(p, v)]⟩ = pure [(p, v)]
theorem kb_of {K : PySem.W.Frag} {d : He.DefD} {f : Addr} {fd : FuncData} {p : Str} (F : FunD K d.name d.qual d.params d.body d.scope [] [] f fd) (b1 : BindA d [p]) (b2 : BindK1 d p) : KBinds K fd [p] [p] (fun us ws => us ++ ws) (fun vs zs => vs ++ zs) := by
  obtain ⟨oc, od, dV, kV, doc, pm, an, cdv, ct, osl, rfl, lk, hcd, hD, hK⟩ := F.ex
  rcases hD with ⟨_, rfl⟩ | ⟨e, _⟩
  · refine ⟨fun s us ws _ hl => ?_, fun r1 r2 => r1.append r2⟩
    match us, ws, hl with
    | [u], [], _ => exact .of_eq (b1 kV doc pm an cdv ct [u] rfl)
    | [], [v], _ => exact .of_eq (b2 kV doc pm an cdv ct v)
    | [], [], hl => exact absurd hl (by simp)
    | [_], _ :: _, hl => exact absurd hl (by simp)
    | _ :: _ :: _, _, hl => exact absurd hl (by simp)
    | [], _ :: _ :: _, hl => exact absurd hl (by simp)
  · exact absurd rfl e
section
variable {X : Cx} {x : Str} {k : Nat} {p : Str} {sp : Sp} {p0 pos : Pos} {kws : List Keyword} {tk : TA}
def tCallKw (sp : Sp) (tk : TA) : TE := fun σ H Q => tk σ H fun zs H2 => sp zs H2 Q E0
theorem pe_ckw (c : CbK X.prog X.w X.K X.mg X.base x k p sp) (hr : Room k X.A) (hg : Gl X x) (hkw : PK X kws tk)
    (hall : (backToKw pos (keywordEach kws X.env)).all (·.1.isSome) = true := by rfl) (hks : (backToKw pos (keywordEach kws X.env)).filterMap (·.1) = [p] := by rfl) (hdb : (x == ("__debug__" : Str)) = false := by decide)
    (hpl : ((backTo pos (starEach [] X.env)).any (·.1) || (backToKw pos (keywordEach kws X.env)).any (·.1.isNone)) = false := by rfl) : PE X (.Call (.Name x p0) [] kws pos) (tCallKw sp tk) := by
  obtain ⟨f, fd, F, hm, hk, _, hb⟩ := c.ex
  refine ⟨fun pins s σ H Q I h => ?_⟩
  refine wpAny_Call_Name_kw (ld_glob I hg hm ?_ hdb)
  refine PySem.W.callWith_KW0 (h₀ := X.base) I.ok.mod.kin hk hall ?_ hpl
  refine thn (hkw.run pos pins s σ H _ I h) fun ws s2 ⟨zs, H2, I2, rz, q2⟩ => ⟨I2.kIn, ?_⟩
  rw [hks]
  exact run_fnk F hr hb pass0 I2 .nil rz q2
end
/-! ### gains -/
theorem sz_sure {ws : List Int} {ss : List (List Nat)} (v : Val ws ss) : Sz 1000 (sure ws ss) := by
  obtain ⟨k, hk, hd⟩ := final_spec v.valid
  have G := (init_good v.valid).iter k
  rw [hk] at G
  have h1 := G.szZ v.m5 (Nat.le_refl _) (j := ws.length + ss.length) (by omega)
  have hs := sum_ws v.wt
  have n2 := v.n2
  have n5 := v.n5
  have h2 : Sz 32 ((ws.sum : Int) : Rat) := by
    have : (2 : Nat) ^ 32 = 4294967296 := by decide
    refine ⟨?_, ?_⟩
    · show (Rat.num ((ws.sum : Int) : Rat)).natAbs < 2 ^ 32
      rw [Rat.num_intCast]
      omega
    · rw [Rat.den_intCast]
      decide
  have h0 : (0 : Rat) < ((ws.sum : Int) : Rat) := by
    have := (Rat.lt_iff 0 ((ws.sum : Int) : Rat))
    simp at this
    exact this.mpr (by omega)
  exact (sz_div h1 h2 h0).mono (by decide)
/-- pairs that make the sure chance greater when forbidden -/
noncomputable def good (ws : List Int) (ss : List (List Nat)) (p : Nat × Nat) : Bool := lessOk ws.length (lessS ss p) && decide (sure ws ss < sure ws (lessS ss p))
noncomputable def due (ws : List Int) (ss : List (List Nat)) : List (Nat × Nat) := (prs ss ws.length).filter (good ws ss)
theorem pfilt_snoc (f : Nat × Nat → Bool) (l : List (Nat × Nat)) {j : Nat} {x : Nat × Nat} (h : l[j]? = some x) : (l.take (j + 1)).filter f = (l.take j).filter f ++ if f x = true then [x] else [] := by
  rw [List.take_succ, h, List.filter_append]
  congr 1
  by_cases e : f x = true
  · rw [if_pos e]
    show List.filter f [x] = [x]
    rw [List.filter_cons_of_pos e]; rfl
  · rw [if_neg e]
    show List.filter f [x] = []
    rw [List.filter_cons_of_neg e]; rfl
def spGains (K : PySem.W.Frag) : Sp := fun vs H Q _ => ∃ (tl : Addr) (ws : List Int) (ss : List (List Nat)), vs = [.ref tl] ∧ TelAt K H tl ws ss ∧ Val ws ss ∧
  ∀ p H' as, Same H H' → H' p = some (.tup (as.map V.ref)) → AllAt (PairAt K H') as (due ws ss) → Q (.ref p) H'
structure GInv (K : PySem.W.Frag) (H Hc : Hp) (lf lp nw : Addr) (ps : List Addr) (ws : List Int) (ss : List (List Nat)) (i : Nat) : Prop where
  lin : LInv K H Hc lf (((prs ss ws.length).take i).filter (good ws ss))
  prs : Hc lp = some (.lst (ps.map V.ref))
  all : AllAt (PairAt K Hc) ps (Kg.prs ss ws.length)
  now : FrAt K Hc nw (sure ws ss)
  ne : lf ≠ lp
section
variable {P : Program} {w : World} {K : PySem.W.Frag} {mg : Str → Option Value} {base : Heap} (T : Tx K mg)
theorem K_gains (T : Tx K mg) : BindK1 d_gains "teller" := fun _ _ _ _ _ _ _ => rfl
include T
theorem B_gains (f : Addr) : Body P w K mg base d_gains N_gains f 8 (spGains K) := by
  rintro cdv A outer s H vs Q E hr ⟨tl, ws, ss, rfl, ht, v, q⟩
  refine ⟨_, (pss_cons (ps_expr (pe_cb (C_check_teller T) (hr.mono (by decide)) (by rfl) (pa_cons (pv 0) pa_nil)))
    (pss_cons (ps_par (i := 1) (j := 2) (by rfl) sc_gains.nd rfl rfl (by decide) rfl rfl (pa_cons (pe_cb (C_sure_for T) (hr.mono (by decide)) (by rfl) (pa_cons (pv 0) pa_nil)) (pa_cons (pe_lst pa_nil) pa_nil)) (by rfl))
    (pss_cons (ps_for PassesOwn.never rfl (piL (K := K) rfl (pe_cb (C_pairs_in T) (hr.mono (by decide)) (by rfl) (pa_cons (pv 0) pa_nil))) (pg_name (i := 3) sc_gains.nd rfl (Or.inl rfl))
      (pss_cons (ps_set (i := 4) sc_gains.nd rfl (Or.inl rfl) (pe_cb (C_forbidden T) (hr.mono (by decide)) (by rfl) (pa_cons (pv 0) (pa_cons (pe_tup (pa_cons (pv 3) pa_nil)) pa_nil))))
      (pss_one (ps_if (PW.pt (pw_and (pt_cmpR op_notN (pv 4) pe_non (nomark _)) (pw_and1 (pt_val (pe_cb (C_is_less T) (hr.mono (by decide)) (by rfl) (pa_cons (pv 1) (pa_cons (pe_cb (C_sure_for T) (hr.mono (by decide)) (by rfl) (pa_cons (pv 4) pa_nil)) pa_nil)))))))
        (pss_one (ps_expr (pe_bm PySem.F.plainAttrs_list PySem.F.slot_list_append PySem.F.type_list_append mt_append (pv 2) (pa_cons (pv 3) pa_nil))))
        pss_nil))))
    (pss_one (ps_ret (pe_callTy (callTup (K := K) rfl) (by rfl) (T.free "tuple" m_free_tuple) bt_tuple (pa_cons (pv 2) pa_nil))))))), ?_⟩
  have n5 := v.n5
  have m5 := v.m5
  refine ⟨_, rfl, tl, ws, ss, rfl, ht, ?_⟩
  refine ⟨_, rfl, tl, ws, ss, rfl, ht, v, fun nw H1 s1 fn => ?_⟩
  refine ⟨(by show 0 ≤ sizeLine; decide), fun lf hlf => ⟨_, _, rfl, ?_⟩⟩
  have s2 := same_new (o := .lst []) hlf
  have l2 := upd_same (H := H1) (a := lf) (o := .lst [])
  generalize upd H1 lf (.lst []) = H2 at s2 l2 ⊢
  have f0 : H lf = none := s1.free hlf
  have s12 := s1.trans s2
  refine ⟨_, rfl, tl, ws, ss, rfl, ht.same s12, n5, m5, fun lp H3 ps hn3 s3 l3 hP => ?_⟩
  have s13 := s12.trans s3
  refine ⟨lp, rfl, ⟨_, .inl (.inl l3)⟩, ?_⟩
  have hlp : (ps.map V.ref).length = (prs ss ws.length).length := by rw [List.length_map, hP.len]
  have hp25 : (prs ss ws.length).length ≤ 25 := Nat.le_trans (prs_len ss _) (Nat.mul_le_mul n5 m5)
  have ne : lf ≠ lp := ne_of_none l2 hn3
  refine for_it (walk_list (K := K) (a := lp) (xs := ps.map V.ref)) (fun i σ Hc => ∃ y z, σ = [some (.ref tl), some (.ref nw), some (.ref lf), y, z] ∧ GInv K H Hc lf lp nw ps ws ss i) ⟨none, none, rfl, ⟨f0, s13, [], s3 _ _ l2, AllAt.nil⟩, l3, hP, fn.same (s2.trans s3), ne⟩ (fun i σ Hc _ ⟨_, _, _, z⟩ => .inl (.inl z.prs)) ?_ ?_
  · rintro i xx σ Hc H' hi ⟨y0, z0, rfl, ⟨_, sc, as, lc, hA⟩, hpr, hall, hnow, _⟩ ⟨rfl, hx⟩
    obtain ⟨pa, hpa, rfl⟩ := map_get hx
    rw [hlp] at hi
    have hps : (prs ss ws.length)[i]? = some (prs ss ws.length)[i] := List.getElem?_eq_getElem hi
    have hpp : PairAt K H' pa (prs ss ws.length)[i] := hall.at_ i pa _ hpa hps
    generalize (prs ss ws.length)[i] = pq at hps hpp
    have e := pfilt_snoc (good ws ss) (prs ss ws.length) hps
    refine ⟨_, rfl, _, rfl, (by show 1 ≤ sizeLine; decide), fun pr hpr1 => ?_⟩
    have sp := same_new (o := .tup [.ref pa]) hpr1
    have hq : SqT K (upd H' pr (.tup [.ref pa])) pr [.ref pa] := .inl (.inl upd_same)
    generalize upd H' pr (.tup [.ref pa]) = H4 at sp hq ⊢
    refine ⟨tl, pr, pa, ws, ss, pq, rfl, (ht.same sc).same sp, v, hq, sqT_same sp hpp, fun no H5 s5 => ?_, fun ok t H5 s5 ht5 => ?_⟩
    · have s45 := sp.trans s5
      refine ⟨_, rfl, rfl, false, rfl, iteF ?_⟩
      refine ⟨_, _, rfl, ⟨f0, sc.trans s45, as, s45 _ _ lc, ?_⟩, s45 _ _ hpr, pair_same s45 hall, hnow.same s45, ne⟩
      rw [e, if_neg (by unfold good; rw [no]; simp), List.append_nil]
      exact pair_same s45 hA
    · have s45 := sp.trans s5
      refine ⟨_, rfl, rfl, true, rfl, iteT ?_⟩
      refine ⟨_, rfl, _, rfl, t, ws, lessS ss pq, rfl, ht5, v.less ok, fun b H6 s6 fb => ?_⟩
      have s46 := s45.trans s6
      refine ⟨nw, b, _, _, rfl, hnow.same s46, fb, sz_sure v, sz_sure (v.less ok), _, rfl, ?_⟩
      refine ite2 (fun c => ?_) (fun c => ?_)
      · refine ⟨_, rfl, .inl ⟨rfl, _, .inl (.inl (s46 _ _ lc))⟩, _, rfl, lf, _, _, rfl, rfl, s46 _ _ lc, ?_, ?_⟩
        · rw [List.length_map, hA.len]
          exact Nat.lt_of_le_of_lt (Nat.le_trans (List.length_filter_le _ _) (by rw [List.length_take]; exact Nat.min_le_right _ _)) (small1000 (by omega))
        have kp : Kp lf H6 (upd H6 lf (.lst (as.map V.ref ++ [V.ref pa]))) := kp_upd
        refine ⟨_, _, rfl, ⟨f0, fun b' u z => ?_, as ++ [pa], by rw [upd_same, List.map_append]; rfl, ?_⟩, ?_, pair_kp kp (s46 _ _ lc) (pair_same s46 hall), sqT_kp kp (s46 _ _ lc) (hnow.same s46), ne⟩
        · rw [upd_ne (ne_of_none z f0)]
          exact s46 _ _ (sc _ _ z)
        · rw [e, if_pos (by unfold good; rw [ok, c]; rfl)]
          exact AllAt.snoc (pair_kp kp (s46 _ _ lc) (pair_same s46 hA)) (sqT_kp kp (s46 _ _ lc) (sqT_same s46 hpp))
        · rw [upd_ne ne.symm]; exact s46 _ _ hpr
      · refine ⟨_, _, rfl, ⟨f0, sc.trans s46, as, s46 _ _ lc, ?_⟩, s46 _ _ hpr, pair_same s46 hall, hnow.same s46, ne⟩
        rw [e, if_neg (by unfold good; rw [ok]; simpa using c), List.append_nil]
        exact pair_same s46 hA
  · rintro σ Hc ⟨y0, z0, rfl, ⟨_, sc, as, lc, hA⟩, hpr, hall, hnow, _⟩
    rw [hlp, List.take_length] at hA
    refine ⟨_, rfl, lf, _, rfl, .inl ⟨.inl (.inl lc), fun p hp => ?_⟩⟩
    have s4 := same_new (o := .tup (as.map V.ref)) hp
    exact q p _ as (sc.trans s4) upd_same (pair_same s4 hA)
theorem C_gainsK : CbK P w K mg base "gains" 9 "teller" (spGains K) := by
  have F := T.F d_gains n_gains
  refine ⟨_, _, fok F sc_gains ?_ (B_gains T _), by exact T.glo "gains" m_glo_gains, F.kp, F.bindsN ba_gains, kb_of F ba_gains (K_gains T)⟩
  rintro vs H Q E ⟨tl, ws, ss, rfl, _⟩; rfl
theorem C_gains : Cb P w K mg base "gains" 9 ["teller"] (spGains K) := (C_gainsK T).cb
end
end Kg

set_option maxHeartbeats 4000000
/-! The walk: a teller's text. -/
namespace Kg
open PySem PySem.Spec PyProof.Rows L2 Mi StX
abbrev iStr (i : Int) : Str := Str.ofString (toString i)
abbrev cStr (cs : List Nat) : Str := Txt.join "," (cs.map fun c : Nat => iStr (c : Int))
/-- the text of a teller -/
def telStr (ws : List Int) (ss : List (List Nat)) : Str := ((Str.empty ++ Txt.join " " (ws.map iStr)) ++ ": ") ++ Txt.join " " (ss.map cStr)
theorem iStr_len {n : Int} (h0 : 0 ≤ n) (h : n < 10 ^ 10) : (iStr n).length ≤ 10 := PySem.W.KT.len_num h0 h
theorem log_small {n : Nat} (h : n < 2 ^ 30) : n.log2 < 1920 := by
  by_cases e : n = 0
  · subst e; decide
  · exact Nat.lt_trans ((Nat.log2_lt e).mpr h) (by decide)
theorem sum_le (b : Nat) : ∀ ys : List Str, (∀ y, y ∈ ys → y.length ≤ b) → (ys.map (·.length)).sum ≤ ys.length * b
  | [], _ => by simp
  | y :: ys, h => by
    have h1 := h y List.mem_cons_self
    have h2 := sum_le b ys fun z hz => h z (List.mem_cons_of_mem _ hz)
    rw [List.map_cons, List.sum_cons, List.length_cons, Nat.succ_mul]
    omega
/-- a short text of few short texts -/
theorem join_room {sep : Str} {ys : List Str} {b n : Nat} (hs : sep.length = 1) (hy : ∀ y, y ∈ ys → y.length ≤ b) (hn : ys.length ≤ n) : (ys.map (·.length)).sum + ys.length * sep.length ≤ n * (b + 1) ∧ (Txt.join sep ys).length ≤ 4 * (n * (b + 1) + 1) := by
  have h1 := sum_le b ys hy
  have h2 : ys.length * b ≤ n * b := Nat.mul_le_mul_right _ hn
  have h3 : (ys.map (·.length)).sum + ys.length ≤ n * (b + 1) := by rw [Nat.mul_succ]; omega
  refine ⟨by rw [hs, Nat.mul_one]; exact h3, len_join_le (n := n * (b + 1)) (by unfold Weighs; omega) (by omega)⟩
theorem cStr_len {n : Nat} {cs : List Nat} (h : ∀ c, c ∈ cs → c < n) (hn : n ≤ 5) (hc : cs.length ≤ 5) : (cStr cs).length ≤ 224 := by
  refine (join_room (b := 10) (n := 5) rfl (fun y hy => ?_) (by rw [List.length_map]; exact hc)).2
  obtain ⟨c, hm, rfl⟩ := List.mem_map.mp hy
  have := h c hm
  exact iStr_len (by omega) (by omega)
def spStr (K : PySem.W.Frag) : Sp := fun vs H Q _ => ∃ (tl : Addr) (ws : List Int) (ss : List (List Nat)), vs = [.ref tl] ∧ TelAt K H tl ws ss ∧ Val ws ss ∧
  ∀ H', Same H H' → Q (.str (telStr ws ss)) H'
section
variable {P : Program} {w : World} {K : PySem.W.Frag} {mg : Str → Option Value} {base : Heap} (T : Tx K mg)
include T
theorem C_tstr : Cm P w K mg base (He.ga K "Teller") "__str__" 1 ["self"] (spStr K) := by
  refine cm_of T d_Teller_str n_Teller_str rfl m_meth_Teller_str m_cls_Teller sc_Teller_str ba_Teller_str ?_ ?_
  · rintro vs H Q E ⟨t, ws, ss, rfl, _⟩; rfl
  · rintro f cdv A outer s H vs Q E hr ⟨t, ws, ss, rfl, ht, v, q⟩
    refine ⟨_, (pss_cons (ps_asg (peF (K := K) rfl (pv 0) rfl) (pgT (K := K) (n := 2) rfl (by rfl) (pgs_cons (pg_name (i := 1) sc_Teller_str.nd rfl (Or.inl rfl)) (pgs_cons (pg_name (i := 2) sc_Teller_str.nd rfl (Or.inl rfl)) (pgs_nil)))))
    (pss_cons (ps_setLc (i := 3) (own := [("cases", 4)]) (by rfl) sc_Teller_str.nd rfl rfl (sw_true rfl rfl rfl (by decide +kernel)) (piT (K := K) rfl (pv 2)) (blkOk_by (own := [("cases", 4)]) (N := N_Teller_str) (sc := defScope s_Teller_str) (by decide +kernel)) (fun _ _ _ _ _ => pg_name (i := 4) sc_Teller_str.nd rfl (Or.inl rfl)) (fun _ _ _ _ _ => pts_nil) (fun _ _ _ _ _ => (peJoin (K := K) rfl pe_str (pe_lc (own := [("case", 5)]) (by rfl) sc_Teller_str.nd (piT (K := K) rfl (pv 4)) (blkOk_by (own := [("case", 5)]) (N := N_Teller_str) (by rfl)) (fun _ _ _ _ _ => pg_name (i := 5) sc_Teller_str.nd rfl (Or.inl rfl)) (fun _ _ _ _ _ => pts_nil) (fun _ _ _ _ _ => (pe_callTy call_str_int (by rfl) (T.free "str" m_free_str) bt_str (pa_cons (pv 5) pa_nil)))))))
    (pss_one (ps_ret (pe_joined (.cons (pe_fmt (peJoin (K := K) rfl pe_str (pe_lc (own := [("weight", 6)]) (by rfl) sc_Teller_str.nd (piT (K := K) rfl (pv 1)) (blkOk_by (own := [("weight", 6)]) (N := N_Teller_str) (sc := defScope s_Teller_str) (by decide +kernel)) (fun _ _ _ _ _ => pg_name (i := 6) sc_Teller_str.nd rfl (Or.inl rfl)) (fun _ _ _ _ _ => pts_nil) (fun _ _ _ _ _ => (pe_callTy call_str_int (by rfl) (T.free "str" m_free_str) bt_str (pa_cons (pv 6) pa_nil)))))) (.cons pe_str (.cons (pe_fmt (peJoin (K := K) rfl pe_str (pv 3))) .nil)))))))), ?_⟩
    obtain ⟨dx, h, hw, hs, h1, h2, h3, as, ha, hA⟩ := ht.ex
    have n5 := v.n5
    have m5 := v.m5
    have hlw : (ws.map V.int).length = ws.length := List.length_map _
    have hls : (as.map V.ref).length = ss.length := by rw [List.length_map, hA.len]
    refine ⟨_, rfl, t, _, dx, _, _, rfl, h1, T.cls "Teller" m_cls_Teller, T.noat "Teller" "held" m_noat_Teller_held, telF_get h, ?_⟩
    refine ⟨h, _, rfl, h2, rfl, _, _, rfl, _, _, rfl, rfl, ?_⟩
    -- the words
    refine ⟨_, rfl, hs, rfl, ⟨_, ha⟩, fun D hD => ?_⟩
    refine lc_run (walk_tup (K := K) (a := hs) (xs := as.map V.ref)) hD (fun i H acc => acc = ((ss.map cStr).take i).map V.str) (fun _ se => sqT_same se ha) (fun _ _ _ _ _ _ _ h => h) (fun _ _ => rfl) (by rw [hls]; exact line_of (by omega)) ?_ ?_
    · rintro i x H2 H' acc k k0 hi s2 hacc hal rfl ⟨rfl, hx⟩ hk _
      obtain ⟨z, hz, rfl⟩ := map_get hx
      rw [hls] at hi
      have hcs : ss[i]? = some ss[i] := List.getElem?_eq_getElem hi
      have hzT := sqT_same s2 (hA.at_ i z _ hz hcs)
      obtain ⟨r1, r2, r3⟩ := v.row _ (List.mem_of_getElem? hcs)
      have r4 := v.short (List.mem_of_getElem? hcs)
      have hlz : (ss[i].map nV).length = ss[i].length := List.length_map _
      refine ⟨rfl, ⟨_, rfl⟩, _, rfl, z, rfl, ⟨_, hzT⟩, fun D2 hD2 => ?_⟩
      refine lc_run (walk_tup (K := K) (a := z) (xs := ss[i].map nV)) hD2 (fun j H acc => acc = ((ss[i].map fun c : Nat => iStr (c : Int)).take j).map V.str) (fun _ s3 => sqT_same s3 hzT) (fun _ _ _ _ _ _ _ h => h) (fun _ _ => rfl) (by rw [hlz]; exact line_of (by omega)) ?_ ?_
      · rintro j x H3 H' acc kk kk0 hj s3 hacc3 hal3 rfl ⟨rfl, hx⟩ hkk _
        obtain ⟨c, hc, rfl⟩ := map_get hx
        have hcn := r3 c (List.mem_of_getElem? hc)
        refine ⟨rfl, _, rfl, _, rfl, ?_, hkk _ _ (Same.refl _) ?_⟩
        · show (c : Int).natAbs.log2 < 1920
          exact log_small (by have : (2 : Nat) ^ 30 = 1073741824 := by decide
                              omega)
        · rw [List.take_succ, List.getElem?_map, hc, List.map_append]; rfl
      · rintro H3 acc s3 hacc3 hal3 rfl
        rw [hlz, ← List.length_map (f := fun c : Nat => iStr (c : Int)) (as := ss[i]), List.take_length] at hacc3
        refine ⟨_, D2, _, rfl, rfl, .inl (.inl (.inl hacc3)), ?_, hk _ _ s3 ?_⟩
        · refine Nat.le_trans (join_room (sep := ",") (b := 10) (n := 5) rfl (fun y hy => ?_) (by rw [List.length_map]; exact r4)).1 (by decide)
          obtain ⟨c, hm, rfl⟩ := List.mem_map.mp hy
          have := r3 c hm
          exact iStr_len (by omega) (by omega)
        · rw [List.take_succ, List.getElem?_map, hcs, List.map_append]; rfl
    · rintro H2 acc s2 hacc hal rfl
      rw [hls, ← List.length_map (f := cStr) (as := ss), List.take_length] at hacc
      have hw2 := sqT_same s2 h3
      have wle : ∀ x, x ∈ ws → (iStr x).length ≤ 10 := fun x hx => by
        have := v.wt x hx
        exact iStr_len (by omega) (by omega)
      have j1 := join_room (sep := " ") (ys := ws.map iStr) (b := 10) (n := 5) rfl (fun y hy => by obtain ⟨x, hm, rfl⟩ := List.mem_map.mp hy; exact wle x hm) (by rw [List.length_map]; exact n5)
      have j2 := join_room (sep := " ") (ys := ss.map cStr) (b := 224) (n := 5) rfl (fun y hy => by
        obtain ⟨cs, hm, rfl⟩ := List.mem_map.mp hy
        exact cStr_len (v.row cs hm).2.2 n5 (v.short hm)) (by rw [List.length_map]; exact m5)
      refine ⟨⟨_, rfl⟩, _, rfl, hw, rfl, ⟨_, hw2⟩, fun D2 hD2 => ?_⟩
      refine lc_run (walk_tup (K := K) (a := hw) (xs := ws.map V.int)) hD2 (fun j H acc => acc = ((ws.map iStr).take j).map V.str) (fun _ s3 => sqT_same s3 hw2) (fun _ _ _ _ _ _ _ h => h) (fun _ _ => rfl) (by rw [hlw]; exact line_of (by omega)) ?_ ?_
      · rintro j x H3 H' acc kk kk0 hj s3 hacc3 hal3 rfl ⟨rfl, hx⟩ hkk _
        obtain ⟨c, hc, rfl⟩ := map_get hx
        have hcn := v.wt c (List.mem_of_getElem? hc)
        refine ⟨rfl, _, rfl, _, rfl, ?_, hkk _ _ (Same.refl _) ?_⟩
        · show c.natAbs.log2 < 1920
          exact log_small (by have : (2 : Nat) ^ 30 = 1073741824 := by decide
                              omega)
        · rw [List.take_succ, List.getElem?_map, hc, List.map_append]; rfl
      · rintro H3 acc s3 hacc3 hal3 rfl
        rw [hlw, ← List.length_map (f := iStr) (as := ws), List.take_length] at hacc3
        have e1 : (Str.empty ++ Txt.join " " (ws.map iStr)).length ≤ 224 := by
          rw [Str.length_append]
          have : Str.empty.length = 0 := rfl
          have := j1.2
          omega
        have e2 : ((Str.empty ++ Txt.join " " (ws.map iStr)) ++ ": ").length ≤ 226 := by
          rw [Str.length_append]
          have : (": " : Str).length = 2 := rfl
          omega
        have e3 : (telStr ws ss).length ≤ 5000 := by
          unfold telStr
          rw [Str.length_append]
          have := j2.2
          omega
        have big : 5000 ≤ sizeLine := by decide
        refine ⟨_, D2, _, rfl, rfl, .inl (.inl (.inl hacc3)), Nat.le_trans j1.1 (by decide), .inl ⟨_, rfl, by have := j1.2; omega, _, rfl, by omega, ?_⟩⟩
        refine ⟨_, rfl, by omega, ?_⟩
        refine ⟨⟨_, rfl⟩, _, rfl, ?_⟩
        refine ⟨_, D, _, rfl, rfl, .inl (.inl (.inl (s3 _ _ hacc))), Nat.le_trans j2.1 (by decide), .inl ⟨_, rfl, by have := j2.2; omega, _, rfl, by show (telStr ws ss).length ≤ _; omega, ?_⟩⟩
        exact q H3 (s2.trans s3)
end
end Kg

set_option maxHeartbeats 4000000
/-! The walk of the law: what is drawn. -/
namespace Kg
open PySem PySem.Spec PyProof.Rows L2 Mi StX
/-! ### the vat -/
def VatAt (H : Hp) (va : Addr) : Prop := ∃ a b c : Int, H va = some (.lst [.int a, .int b, .int c]) ∧ 0 ≤ b ∧ b < 2147483423
theorem VatAt.lst {H : Hp} {va : Addr} (v : VatAt H va) : ∃ ys, H va = some (.lst ys) := by obtain ⟨a, b, c, h, _⟩ := v; exact ⟨_, h⟩
theorem VatAt.ne {H : Hp} {va D : Addr} (v : VatAt H va) (h : H D = none) : D ≠ va := fun z => by
  obtain ⟨ys, e⟩ := v.lst
  rw [z, e] at h
  cases h
theorem VatAt.same {H H' : Hp} {va : Addr} (e : Same H H') (v : VatAt H va) : VatAt H' va := by obtain ⟨a, b, c, h, r⟩ := v; exact ⟨a, b, c, e _ _ h, r⟩
theorem VatAt.upd {H : Hp} {va D : Addr} {o : HO} (v : VatAt H va) (n : D ≠ va) : VatAt (upd H D o) va := by obtain ⟨a, b, c, h, r⟩ := v; exact ⟨a, b, c, by rw [upd_ne n.symm]; exact h, r⟩
theorem Kp.sameL {va : Addr} {H H1 H2 : Hp} (x : Kp va H H1) (y : Same H1 H2) : Kp va H H2 := x.trans (Kp.of y)
theorem Kp.free {va D : Addr} {H H1 : Hp} (x : Kp va H H1) (h : H1 D = none) (n : D ≠ va) : H D = none := by
  cases e : H D with
  | none => rfl
  | some o => rw [x D o e n] at h; cases h
/-- a comprehension whose block draws from the vat and makes plain numbers -/
theorem lc_vat {J : It} {n : Nat} {G : Hp → Prop} {Y : Nat → Hp → V → Hp → Prop} (w : Walk J n G Y) {g : TG} {tt : TT} {te : TE} {vs : List Nat} {σ : L2.St} {H1 : Hp} {D va : Addr} {Qd : Hp → Prop} (hD : H1 D = none) (hv : VatAt H1 va) (R : Nat → List V → Prop)
    (hG : ∀ H, G H) (h0 : R 0 []) (hn : n ≤ sizeLine)
    (hs : ∀ i x H H' acc (k : V → Hp → Prop) (k0 : Hp → Prop), i < n → Kp va H1 H → VatAt H va → R i acc → Y i H x H' → (∀ y H4, Kp va H H4 → VatAt H4 va → R (i + 1) (acc ++ [y]) → k y H4) → (∀ H3, Kp va H H3 → VatAt H3 va → R (i + 1) acc → k0 H3) →
      g x (wipe σ vs) H' fun σ2 H2 => wipe σ2 vs = wipe σ vs ∧ tt σ2 H2 fun b H3 => if b = true then te σ2 H3 k else k0 H3)
    (hd : ∀ H acc, Kp va H1 H → VatAt H va → H D = some (.lst acc) → acc.length ≤ n → R n acc → Qd H) :
    ∃ W : Nat → Nat → Hp → Prop, (∃ m, W 0 m (upd H1 D (.lst []))) ∧ ∀ i m H, W i m H →
      (J.stop i H ∧ Qd H) ∨ (J.go i H ∧ ∃ Nx : Hp → Prop, (∀ H', Nx H' → ∃ m', m' < m ∧ W (i + 1) m' H') ∧ ∀ x H', J.yld i H x H' → g x (wipe σ vs) H' fun σ2 H2 => wipe σ2 vs = wipe σ vs ∧ tt σ2 H2 fun b H3 =>
        if b = true then te σ2 H3 fun y H4 => ∃ acc, H4 D = some (.lst acc) ∧ acc.length < sizeLine ∧ Nx (upd H4 D (.lst (acc ++ [y]))) else Nx H3) := by
  have nD : D ≠ va := hv.ne hD
  have s0 : ∀ {H o}, Kp va H1 H → Kp va H1 (upd H D o) := fun {H o} s b u e n => by rw [upd_ne (ne_of_none e hD)]; exact s b u e n
  refine lc_it w (fun i H => ∃ acc, Kp va H1 H ∧ VatAt H va ∧ H D = some (.lst acc) ∧ acc.length ≤ i ∧ R i acc) ⟨[], s0 (Kp.of (Same.refl _)), hv.upd nD, upd_same, Nat.le_refl _, h0⟩ (fun i H _ _ => hG H) ?_ ?_
  · rintro i x H H' hi ⟨acc, s, hva, e, hl, r⟩ y
    refine hs i x H H' acc _ _ hi s hva r y (fun v H4 s4 v4 r4 => ?_) (fun H3 s3 v3 r3 => ?_)
    · have e4 := s4 D _ e nD
      exact ⟨acc, e4, by omega, acc ++ [v], s0 (s.trans s4), v4.upd nD, upd_same, by rw [List.length_append]; exact Nat.succ_le_succ hl, r4⟩
    · exact ⟨acc, s.trans s3, v3, s3 D _ e nD, by omega, r3⟩
  · rintro H ⟨acc, s, hva, e, hl, r⟩
    exact hd H acc s hva e hl r
def spTap : Sp := fun vs H Q _ => ∃ (va : Addr) (top : Int), vs = [.ref va, .int top] ∧ VatAt H va ∧ 0 < top ∧ top ≤ 1000000 ∧ ∀ d H', 0 ≤ d → d < top → Kp va H H' → VatAt H' va → Q (.int d) H'
def spOne : Sp := fun vs H Q _ => ∃ (va lt : Addr) (ts : List Int), vs = [.ref va, .ref lt] ∧ VatAt H va ∧ H lt = some (.lst (ts.map V.int)) ∧ lt ≠ va ∧ ts ≠ [] ∧ ts.length ≤ 100 ∧ ∀ d H', d ∈ ts → Kp va H H' → VatAt H' va → Q (.int d) H'
def spWeights : Sp := fun vs H Q _ => ∃ (va : Addr) (n : Nat), vs = [.ref va, nV n] ∧ VatAt H va ∧ n ≤ 5 ∧
  ∀ p H' (ws : List Int), Kp va H H' → VatAt H' va → H' p = some (.tup (ws.map V.int)) → ws.length = n → (∀ x, x ∈ ws → 1 ≤ x ∧ x ≤ 1000000) → Q (.ref p) H'
def spLLot : Sp := fun vs H Q _ => ∃ (va : Addr) (n : Nat), vs = [.ref va, nV n] ∧ VatAt H va ∧ n ≤ 5 ∧
  ∀ p H' (cs : List Nat), Kp va H H' → VatAt H' va → H' p = some (.tup (cs.map nV)) → cs.Pairwise (· < ·) → (∀ c, c ∈ cs → c < n) → Q (.ref p) H'
section
variable {P : Program} {w : World} {K : PySem.W.Frag} {mg : Str → Option Value} {base : Heap} (T : Tx K mg)
include T
theorem C_law_tap : Cb P w K mg base "_law_tap" 1 ["_law_vat_here", "_law_top"] spTap := by
  refine cb_of T d_law_tap n_law_tap rfl m_glo_law_tap sc_law_tap ba_law_tap ?_ ?_
  · rintro vs H Q E ⟨va, top, rfl, _⟩; rfl
  · rintro f cdv A outer s H vs Q E hr ⟨va, top, rfl, ⟨a, b, c, hv, b0, b1⟩, t0, t1, q⟩
    refine ⟨_, (pss_cons (ps_asg (pe_op op_add (pe_ix (ixL (K := K) rfl) (pv 0) pe_int (fun _ _ => rfl)) pe_int) (pg_sub (pv 0) pe_int set_list))
    (pss_cons (ps_if (pt_cmpR op_gt (pe_ix (ixL (K := K) rfl) (pv 0) pe_int (fun _ _ => rfl)) pe_int (nomark _))
      (pss_cons (ps_asg (pe_callB call_divmod (by rfl) (T.free "divmod" m_free_divmod) bt_divmod (pa_cons (pe_ix (ixL (K := K) rfl) (pv 0) pe_int (fun _ _ => rfl)) (pa_cons (pv 1) pa_nil))) (pgT (K := K) (n := 2) rfl (by rfl) (pgs_cons (pg_sub (pv 0) pe_int set_list) (pgs_cons (pg_name (i := 2) sc_law_tap.nd rfl (Or.inl rfl)) (pgs_nil)))))
      (pss_one (ps_ret (pv 2))))
      pss_nil)
    (pss_cons (ps_asg (pe_op op_mod (pe_callTy call_int1 (by rfl) (T.free "int" m_free_int) bt_int (pa_cons (pe_op op_add (pe_op op_mul (pe_ix (ixL (K := K) rfl) (pv 0) pe_int (fun _ _ => rfl)) pe_int) (pe_op op_mul pe_int (pe_ix (ixL (K := K) rfl) (pv 0) pe_int (fun _ _ => rfl)))) pa_nil)) pe_int) (pg_sub (pv 0) pe_int set_list))
    (pss_one (ps_ret (pe_op op_mod (pe_callTy call_int1 (by rfl) (T.free "int" m_free_int) bt_int (pa_cons (pe_op op_fdiv (pe_op op_mul (pe_ix (ixL (K := K) rfl) (pv 0) pe_int (fun _ _ => rfl)) (pe_ix (ixL (K := K) rfl) (pv 0) pe_int (fun _ _ => rfl))) pe_int) pa_nil)) (pv 1))))))), ?_⟩
    refine ⟨_, rfl, va, _, 2, _, rfl, rfl, .inl (.inl hv), rfl, _, _, rfl, rfl, ?_⟩
    refine ⟨_, rfl, va, _, 2, 2, rfl, rfl, hv, rfl, ?_⟩
    have k1 : Kp va H (upd H va (.lst ([V.int a, V.int b, V.int c].set 2 (.int (c + 1))))) := kp_upd
    have h1 : (upd H va (.lst ([V.int a, V.int b, V.int c].set 2 (.int (c + 1))))) va = some (.lst [.int a, .int b, .int (c + 1)]) := upd_same
    generalize upd H va (.lst ([V.int a, V.int b, V.int c].set 2 (.int (c + 1)))) = H1 at k1 h1 ⊢
    refine ⟨_, rfl, va, _, 0, _, rfl, rfl, .inl (.inl h1), rfl, _, _, rfl, rfl, _, rfl, ?_⟩
    refine ite2 (fun cc => ?_) (fun cc => ?_)
    · refine ⟨_, rfl, va, _, 0, _, rfl, rfl, .inl (.inl h1), rfl, _, rfl, _, _, rfl, ⟨t0, by omega⟩, fun p hp => ?_⟩
      have s2 := same_new (o := .tup [V.int (a / top), V.int (a % top)]) hp
      have h2 := s2 _ _ h1
      have p2 := upd_same (H := H1) (a := p) (o := .tup [V.int (a / top), V.int (a % top)])
      generalize upd H1 p (.tup [V.int (a / top), V.int (a % top)]) = H2 at s2 h2 p2 ⊢
      refine ⟨p, _, rfl, .inl (.inl p2), rfl, _, _, rfl, ?_⟩
      refine ⟨_, rfl, va, _, 0, 0, rfl, rfl, h2, rfl, ?_⟩
      refine ⟨_, _, rfl, rfl, ?_⟩
      exact ⟨_, rfl, q _ _ (Int.emod_nonneg _ (by omega)) (Int.emod_lt_of_pos _ t0) ((k1.sameL s2).trans kp_upd) ⟨_, _, _, upd_same, b0, b1⟩⟩
    · refine ⟨_, rfl, va, _, 1, _, rfl, rfl, .inl (.inl h1), rfl, _, _, rfl, rfl, .inr (by constructor <;> decide), ?_⟩
      refine ⟨_, rfl, va, _, 2, _, rfl, rfl, .inl (.inl h1), rfl, _, _, rfl, rfl, .inl (by constructor <;> decide), ?_⟩
      refine ⟨_, _, rfl, rfl, .inl ⟨_, rfl, _, _, rfl, rfl, (by show (0 : Int) < 2147483423; decide), ?_⟩⟩
      have d0 := Int.emod_nonneg (b * 27011 + 30011 * (c + 1)) (b := 2147483423) (by decide)
      have d1 := Int.emod_lt_of_pos (b * 27011 + 30011 * (c + 1)) (b := 2147483423) (by decide)
      refine ⟨_, rfl, va, _, 1, 1, rfl, rfl, h1, rfl, ?_⟩
      have k2 : Kp va H1 (upd H1 va (.lst ([V.int a, V.int b, V.int (c + 1)].set 1 ((fun i j => V.int (i % j)) (b * 27011 + 30011 * (c + 1)) 2147483423)))) := kp_upd
      have h2 : (upd H1 va (.lst ([V.int a, V.int b, V.int (c + 1)].set 1 ((fun i j => V.int (i % j)) (b * 27011 + 30011 * (c + 1)) 2147483423)))) va = some (.lst [.int a, .int ((b * 27011 + 30011 * (c + 1)) % 2147483423), .int (c + 1)]) := upd_same
      generalize upd H1 va (.lst ([V.int a, V.int b, V.int (c + 1)].set 1 ((fun i j => V.int (i % j)) (b * 27011 + 30011 * (c + 1)) 2147483423))) = H2 at k2 h2 ⊢
      generalize (b * 27011 + 30011 * (c + 1)) % 2147483423 = d at d0 d1 h2
      refine ⟨_, rfl, va, _, 1, _, rfl, rfl, .inl (.inl h2), rfl, _, rfl, va, _, 1, _, rfl, rfl, .inl (.inl h2), rfl, _, _, rfl, rfl, .inl (by constructor <;> omega), ?_⟩
      refine ⟨_, _, rfl, rfl, ⟨by decide, by decide⟩, .inl ⟨_, rfl, _, rfl, _, _, rfl, rfl, t0, ?_⟩⟩
      exact q _ _ (Int.emod_nonneg _ (by omega)) (Int.emod_lt_of_pos _ t0) (k1.trans k2) ⟨_, _, _, h2, d0, d1⟩
theorem C_law_one : Cb P w K mg base "_law_one" 2 ["_law_vat_here", "_law_things"] spOne := by
  refine cb_of T d_law_one n_law_one rfl m_glo_law_one sc_law_one ba_law_one ?_ ?_
  · rintro vs H Q E ⟨va, lt, ts, rfl, _⟩; rfl
  · rintro f cdv A outer s H vs Q E hr ⟨va, lt, ts, rfl, hv, hl, ne, hne, h100, q⟩
    refine ⟨_, (pss_one (ps_ret (pe_ix (ixL (K := K) rfl) (pv 1) (pe_cb (C_law_tap T) (hr.mono (by decide)) (by rfl) (pa_cons (pv 0) (pa_cons (pe_callB (callLen (K := K) rfl) (by rfl) (T.free "len" m_free_len) bt_len (pa_cons (pv 1) pa_nil)) pa_nil))) (fun _ _ => rfl)))), ?_⟩
    have hlen : (ts.map V.int).length = ts.length := List.length_map _
    have h0 : 0 < ts.length := List.length_pos_iff.mpr hne
    refine ⟨_, rfl, _, rfl, _, rfl, lt, _, rfl, .inl (.inl (.inl hl)), ?_⟩
    refine ⟨va, _, rfl, hv, by rw [hlen]; omega, by rw [hlen]; omega, fun d H' d0 d1 k1 hv1 => ?_⟩
    rw [hlen] at d1
    have hd : ts[d.toNat]? = some ts[d.toNat] := List.getElem?_eq_getElem (by omega)
    refine ⟨lt, _, d, .int ts[d.toNat], rfl, rfl, .inl (.inl (k1 _ _ hl ne)), ?_, q _ H' (List.getElem_mem _) k1 hv1⟩
    obtain ⟨dn, rfl⟩ := Int.eq_ofNat_of_zero_le d0
    refine atI_nat ?_
    rw [List.getElem?_map]
    show Option.map V.int ts[(dn : Int).toNat]? = _
    rw [hd]
    rfl
theorem C_law_weights : Cb P w K mg base "_law_weights" 3 ["_law_vat_here", "_law_many"] spWeights := by
  refine cb_of T d_law_weights n_law_weights rfl m_glo_law_weights sc_law_weights ba_law_weights ?_ ?_
  · rintro vs H Q E ⟨va, n, rfl, _⟩; rfl
  · rintro f cdv A outer s H vs Q E hr ⟨va, n, rfl, hv, n5, q⟩
    refine ⟨_, (pss_cons (ps_set (i := 2) sc_law_weights.nd rfl (Or.inr rfl) (pe_cb (C_law_one T) (hr.mono (by decide)) (by rfl) (pa_cons (pv 0) (pa_cons (pe_lst (pa_cons pe_int (pa_cons pe_int (pa_cons pe_int (pa_cons pe_int (pa_cons pe_int (pa_cons (pe_op op_pow pe_int pe_int) pa_nil))))))) pa_nil))))
    (pss_one (ps_ret (pe_callTy (callTup (K := K) rfl) (by rfl) (T.free "tuple" m_free_tuple) bt_tuple (pa_cons (pe_lc (own := [("_law_k", 3)]) (by rfl) sc_law_weights.nd (pi_range1 (by rfl) (T.free "range" m_free_range) (pa_cons (pv 1) pa_nil)) (blkOk_by (own := [("_law_k", 3)]) (N := N_law_weights) (sc := defScope s_law_weights) (by decide +kernel)) (fun _ _ _ _ _ => pg_name (i := 3) sc_law_weights.nd rfl (Or.inl rfl)) (fun _ _ _ _ _ => pts_nil) (fun _ _ _ _ _ => (pe_op op_add pe_int (pe_cb (C_law_tap T) (hr.mono (by decide)) (by rfl) (pa_cons (pv 0) (pa_cons (pv 2) pa_nil)))))) pa_nil))))), ?_⟩
    refine ⟨_, rfl, _, _, rfl, rfl, ⟨by decide, by decide, by decide⟩, by decide, fun lt hlt => ?_⟩
    have s1 := same_new (o := .lst [.int 1, .int 2, .int 4, .int 9, .int 100, .int ((10 : Int) ^ (6 : Int).toNat)]) hlt
    refine ⟨va, lt, [1, 2, 4, 9, 100, (10 : Int) ^ (6 : Int).toNat], rfl, hv.same s1, upd_same, hv.ne hlt, by simp, by decide, fun top H2 ht k2 hv2 => ?_⟩
    have t0 : 0 < top ∧ top ≤ 1000000 := by
      simp only [List.mem_cons, List.mem_nil_iff, or_false] at ht
      have : (10 : Int) ^ (6 : Int).toNat = 1000000 := by decide
      omega
    have k02 : Kp va H H2 := (Kp.of s1).trans k2
    refine ⟨_, rfl, _, rfl, by omega, by omega, fun D hD => ?_⟩
    refine lc_vat (walk_range (lo := 0) (n := (n : Int).toNat)) hD hv2 (fun i acc => ∃ ws : List Int, acc = ws.map V.int ∧ ws.length = i ∧ ∀ x, x ∈ ws → 1 ≤ x ∧ x ≤ 1000000) (fun _ => trivial) ⟨[], rfl, rfl, by simp⟩ (line_of (by omega)) ?_ ?_
    · rintro i x H3 H' acc kk kk0 hi k3 hv3 ⟨ws, rfl, hl, hb⟩ ⟨rfl, rfl⟩ hk _
      refine ⟨rfl, _, rfl, _, rfl, va, top, rfl, hv3, t0.1, t0.2, fun d H4 d0 d1 k4 hv4 => ?_⟩
      refine ⟨_, _, rfl, rfl, hk _ _ k4 hv4 ⟨ws ++ [1 + d], by rw [List.map_append]; rfl, by simp [hl], fun x hx => ?_⟩⟩
      rcases List.mem_append.mp hx with z | z
      · exact hb x z
      · rw [List.mem_singleton.mp z]; omega
    · rintro H3 acc k3 hv3 hacc hal ⟨ws, rfl, hl, hb⟩
      refine ⟨D, _, rfl, .inl ⟨.inl (.inl hacc), fun p hp => ?_⟩⟩
      have s4 := same_new (o := .tup (ws.map V.int)) hp
      exact q p _ ws ((k02.trans k3).sameL s4) (hv3.same s4) upd_same (by rw [hl, Int.toNat_natCast]) hb
theorem C_law_lot : Cb P w K mg base "_law_lot" 2 ["_law_vat_here", "_law_many"] spLLot := by
  refine cb_of T d_law_lot n_law_lot rfl m_glo_law_lot sc_law_lot ba_law_lot ?_ ?_
  · rintro vs H Q E ⟨va, n, rfl, _⟩; rfl
  · rintro f cdv A outer s H vs Q E hr ⟨va, n, rfl, hv, n5, q⟩
    refine ⟨_, (pss_one (ps_ret (pe_callTy (callTup (K := K) rfl) (by rfl) (T.free "tuple" m_free_tuple) bt_tuple (pa_cons (pe_lc (own := [("_law_k", 2)]) (by rfl) sc_law_lot.nd (pi_range1 (by rfl) (T.free "range" m_free_range) (pa_cons (pv 1) pa_nil)) (blkOk_by (own := [("_law_k", 2)]) (N := N_law_lot) (sc := defScope s_law_lot) (by decide +kernel)) (fun _ _ _ _ _ => pg_name (i := 2) sc_law_lot.nd rfl (Or.inl rfl)) (fun _ _ _ _ _ => pts_one (pt_cmpR op_eq (pe_cb (C_law_tap T) (hr.mono (by decide)) (by rfl) (pa_cons (pv 0) (pa_cons pe_int pa_nil))) pe_int (nomark _))) (fun _ _ _ _ _ => (pv 2))) pa_nil)))), ?_⟩
    refine ⟨_, rfl, _, rfl, by omega, by omega, fun D hD => ?_⟩
    refine lc_vat (walk_range (lo := 0) (n := (n : Int).toNat)) hD hv (fun i acc => ∃ cs : List Nat, acc = cs.map nV ∧ cs.Pairwise (· < ·) ∧ ∀ c, c ∈ cs → c < i) (fun _ => trivial) ⟨[], rfl, .nil, by simp⟩ (line_of (by omega)) ?_ ?_
    · rintro i x H3 H' acc kk kk0 hi k3 hv3 ⟨cs, rfl, hp, hb⟩ ⟨rfl, rfl⟩ hk hk0
      refine ⟨rfl, _, rfl, va, 2, rfl, hv3, by decide, by decide, fun d H4 d0 d1 k4 hv4 => ?_⟩
      refine ⟨rfl, _, rfl, ?_⟩
      refine ite2 (fun c => ⟨_, rfl, hk _ _ k4 hv4 ⟨cs ++ [i], ?_, ?_, ?_⟩⟩) (fun c => hk0 _ k4 hv4 ⟨cs, rfl, hp, fun c hc => by have := hb c hc; omega⟩)
      · show List.map nV cs ++ [V.int (0 + (i : Int))] = _
        rw [List.map_append, Int.zero_add]; rfl
      · rw [List.pairwise_append]
        exact ⟨hp, by simp, fun a ha b hbb => by rw [List.mem_singleton.mp hbb]; exact hb a ha⟩
      · intro c hc
        rcases List.mem_append.mp hc with z | z
        · have := hb c z; omega
        · rw [List.mem_singleton.mp z]; omega
    · rintro H3 acc k3 hv3 hacc hal ⟨cs, rfl, hp, hb⟩
      refine ⟨D, _, rfl, .inl ⟨.inl (.inl hacc), fun p hpp => ?_⟩⟩
      have s4 := same_new (o := .tup (cs.map nV)) hpp
      exact q p _ cs (k3.sameL s4) (hv3.same s4) upd_same hp (fun c hc => by have := hb c hc; omega)
end
end Kg

set_option maxHeartbeats 4000000
/-! The walk of the law: the sayings drawn. -/
namespace Kg
open PySem PySem.Spec PyProof.Rows L2 Mi StX
def RowsOk (n : Nat) (ss : List (List Nat)) : Prop := ∀ cs, cs ∈ ss → cs ≠ [] ∧ cs.Pairwise (· < ·) ∧ ∀ c, c ∈ cs → c < n
theorem shLsay (ss : List (List Nat)) : SeqAt.shaped (.list (ss.map lotD)) = true := by
  have h := depSay ss
  show ((PyData.canLay0 (.list (ss.map lotD))) && decide (PyData.depth (.list (ss.map lotD)) ≤ 64)) = true
  rw [Bool.and_eq_true]
  refine ⟨?_, decide_eq_true (by simp only [PyData.depth]; omega)⟩
  show PyData.canLayAll0 (ss.map lotD) = true
  exact canSay ss
theorem eqv_lnil (ds : List PyData) : PyData.eqv (.list ds) (.list []) = ds.isEmpty := by
  cases ds <;> rfl
theorem sort_nat {ns : List Int} {l : List Nat} (h : ns.Perm (l.map fun c : Nat => (c : Int))) (hp : ns.Pairwise (· ≤ ·)) (nd : l.Nodup) : ∃ cs : List Nat, ns.map V.int = cs.map nV ∧ cs.Perm l ∧ cs.Pairwise (· < ·) := by
  have hx : ∀ x, x ∈ ns → ∃ c : Nat, x = (c : Int) := fun x hx => by
    obtain ⟨c, _, e⟩ := List.mem_map.mp (h.mem_iff.mp hx)
    exact ⟨c, e.symm⟩
  have pm : (ns.map Int.toNat).Perm l := by
    have := h.map Int.toNat
    rw [List.map_map] at this
    have e : (Int.toNat ∘ fun c : Nat => (c : Int)) = id := by funext c; simp
    rw [e, List.map_id] at this
    exact this
  refine ⟨ns.map Int.toNat, ?_, pm, ?_⟩
  · rw [List.map_map]
    refine List.map_congr_left fun x hm => ?_
    obtain ⟨c, rfl⟩ := hx x hm
    rfl
  · have nd2 : (ns.map Int.toNat).Nodup := pm.nodup_iff.mpr nd
    have p1 : (ns.map Int.toNat).Pairwise (· ≤ ·) := by
      rw [List.pairwise_map]
      exact hp.imp fun {a b} hab => by omega
    exact (p1.and nd2).imp fun {a b} ⟨h1, h2⟩ => Nat.lt_of_le_of_ne h1 h2
theorem rowsOk_set {n : Nat} {ss : List (List Nat)} (h : RowsOk n ss) {i : Nat} {cs : List Nat} (hc : cs ≠ [] ∧ cs.Pairwise (· < ·) ∧ ∀ c, c ∈ cs → c < n) : RowsOk n (ss.set i cs) := fun x hx => by
  rcases List.mem_or_eq_of_mem_set hx with z | z
  · exact h x z
  · rw [z]; exact hc
theorem cov_set {ss : List (List Nat)} {k i : Nat} {cs : List Nat} (hi : i < ss.length) (hs : ∀ c, c ∈ ss[i] → c ∈ cs) (h : ∃ x, x ∈ ss ∧ k ∈ x) : ∃ x, x ∈ ss.set i cs ∧ k ∈ x := by
  obtain ⟨x, hx, hk⟩ := h
  obtain ⟨j, hj, rfl⟩ := List.mem_iff_getElem.mp hx
  by_cases e : i = j
  · subst e
    exact ⟨cs, List.mem_iff_getElem.mpr ⟨i, by rw [List.length_set]; exact hi, by rw [List.getElem_set_self]⟩, hs k hk⟩
  · exact ⟨ss[j], List.mem_iff_getElem.mpr ⟨j, by rw [List.length_set]; exact hj, by rw [List.getElem_set_ne e]⟩, hk⟩
structure YInv (K : PySem.W.Frag) (H Hc : Hp) (va lf : Addr) (n : Nat) (ss : List (List Nat)) : Prop where
  fr : H lf = none
  old : Kp va H Hc
  vat : VatAt Hc va
  ok : RowsOk n ss
  ex : ∃ as : List Addr, Hc lf = some (.lst (as.map V.ref)) ∧ LotsAt K Hc as ss
theorem LotsAt.kpv {K : PySem.W.Frag} {H H' : Hp} {va : Addr} {as : List Addr} {ss : List (List Nat)} (v : VatAt H va) (e : Kp va H H') (h : LotsAt K H as ss) : LotsAt K H' as ss := by
  obtain ⟨ys, hv⟩ := v.lst
  exact h.kp e hv
theorem filtL_snoc (f : List Nat → Bool) (l : List (List Nat)) {j : Nat} {x : List Nat} (h : l[j]? = some x) : (l.take (j + 1)).filter f = (l.take j).filter f ++ if f x = true then [x] else [] := by
  rw [List.take_succ, h, List.filter_append]
  congr 1
  by_cases e : f x = true
  · rw [if_pos e]
    show List.filter f [x] = [x]
    rw [List.filter_cons_of_pos e]; rfl
  · rw [if_neg e]
    show List.filter f [x] = []
    rw [List.filter_cons_of_neg e]; rfl
def spLSay (K : PySem.W.Frag) : Sp := fun vs H Q _ => ∃ (va : Addr) (n : Nat), vs = [.ref va, nV n, .int 5] ∧ VatAt H va ∧ 2 ≤ n ∧ n ≤ 5 ∧
  ∀ p H' ss, Kp va H H' → VatAt H' va → SayAt K H' p ss → ss ≠ [] → ss.length ≤ 5 → RowsOk n ss → (∀ k, k < n → ∃ x, x ∈ ss ∧ k ∈ x) → Q (.ref p) H'
section
variable {P : Program} {w : World} {K : PySem.W.Frag} {mg : Str → Option Value} {base : Heap} (T : Tx K mg)
include T
theorem C_law_sayings : Cb P w K mg base "_law_sayings" 3 ["_law_vat_here", "_law_many", "_law_most"] (spLSay K) := by
  refine cb_of T d_law_sayings n_law_sayings rfl m_glo_law_sayings sc_law_sayings ba_law_sayings ?_ ?_
  · rintro vs H Q E ⟨va, n, rfl, _⟩; rfl
  · rintro f cdv A outer s H vs Q E hr ⟨va, n, rfl, hv, n2, n5, q⟩
    refine ⟨_, (pss_cons (ps_set (i := 3) sc_law_sayings.nd rfl (Or.inl rfl) (pe_lst pa_nil))
    (pss_cons (ps_for PassesOwn.never rfl (pi_range1 (by rfl) (T.free "range" m_free_range) (pa_cons (pe_op op_add pe_int (pe_cb (C_law_tap T) (hr.mono (by decide)) (by rfl) (pa_cons (pv 0) (pa_cons (pv 2) pa_nil)))) pa_nil)) (pg_name (i := 4) sc_law_sayings.nd rfl (Or.inl rfl))
      (pss_cons (ps_set (i := 5) sc_law_sayings.nd rfl (Or.inl rfl) (pe_cb (C_law_lot T) (hr.mono (by decide)) (by rfl) (pa_cons (pv 0) (pa_cons (pv 1) pa_nil))))
      (pss_one (ps_expr (pe_bm PySem.F.plainAttrs_list PySem.F.slot_list_append PySem.F.type_list_append mt_append (pv 3) (pa_cons (pe_ifExp (pt_cmpR (opNeD (K := K) rfl hr.units) (pv 5) (pe_tup pa_nil) (nomark _)) (pv 5) (pe_tup (pa_cons (pe_cb (C_law_tap T) (hr.mono (by decide)) (by rfl) (pa_cons (pv 0) (pa_cons (pv 1) pa_nil))) pa_nil))) pa_nil))))))
    (pss_cons (ps_for PassesOwn.never rfl (pi_range1 (by rfl) (T.free "range" m_free_range) (pa_cons (pv 1) pa_nil)) (pg_name (i := 6) sc_law_sayings.nd rfl (Or.inr rfl))
      (pss_one (ps_if (pt_cmpR (opEqD (K := K) rfl hr.units) (pe_lc (own := [("_law_part", 5)]) (by rfl) sc_law_sayings.nd (piL (K := K) rfl (pv 3)) (blkOk_by (own := [("_law_part", 5)]) (N := N_law_sayings) (sc := defScope s_law_sayings) (by decide +kernel)) (fun _ _ _ _ _ => pg_name (i := 5) sc_law_sayings.nd rfl (Or.inl rfl)) (fun _ _ _ _ _ => pts_one (pt_cmpR (opIn (K := K) rfl) (pv 6) (pv 5) (by rfl))) (fun _ _ _ _ _ => (pv 5))) (pe_lst pa_nil) (nomark _))
        (pss_cons (ps_set (i := 7) sc_law_sayings.nd rfl (Or.inl rfl) (pe_cb (C_law_tap T) (hr.mono (by decide)) (by rfl) (pa_cons (pv 0) (pa_cons (pe_callB (callLen (K := K) rfl) (by rfl) (T.free "len" m_free_len) bt_len (pa_cons (pv 3) pa_nil)) pa_nil))))
        (pss_one (ps_asg (pe_callTy (callTup (K := K) rfl) (by rfl) (T.free "tuple" m_free_tuple) bt_tuple (pa_cons (pe_callB (crSortT (K := K) rfl) (by rfl) (T.free "sorted" m_free_sorted) bt_sorted (pa_cons (pe_op (opCatT (K := K) rfl) (pe_ix (ixL (K := K) rfl) (pv 3) (pv 7) (fun _ _ => rfl)) (pe_tup (pa_cons (pv 6) pa_nil))) pa_nil)) pa_nil)) (pg_sub (pv 3) (pv 7) set_list))))
        pss_nil)))
    (pss_one (ps_ret (pe_callTy (callTup (K := K) rfl) (by rfl) (T.free "tuple" m_free_tuple) bt_tuple (pa_cons (pv 3) pa_nil))))))), ?_⟩
    refine ⟨(by show 0 ≤ sizeLine; decide), fun lf hlf => ?_⟩
    have s1 := same_new (o := .lst []) hlf
    have l1 := upd_same (H := H) (a := lf) (o := .lst [])
    have nlv : lf ≠ va := hv.ne hlf
    generalize upd H lf (.lst []) = H1 at s1 l1 ⊢
    refine ⟨_, rfl, _, rfl, va, 5, rfl, hv.same s1, by decide, by decide, fun d H2 d0 d1 k2 hv2 => ?_⟩
    refine ⟨_, _, rfl, rfl, _, rfl, by omega, by omega, ?_⟩
    refine for_range (lo := 0) (n := (1 + d).toNat) (fun i σ Hc => ∃ x y ss, σ = [some (.ref va), some (nV n), some (.int 5), some (.ref lf), x, y, none, none] ∧ YInv K H Hc va lf n ss ∧ ss.length = i)
      ⟨none, none, [], rfl, ⟨hlf, (Kp.of s1).trans k2, hv2, by intro cs hc; simp at hc, [], k2 _ _ l1 nlv, AllAt.nil⟩, rfl⟩ ?_ ?_
    · rintro i σ Hc hi ⟨x, y, ss, rfl, ⟨_, kc, hvc, ok, as, lc, hA⟩, hlen⟩
      have hi5 : i < 5 := by omega
      refine ⟨_, rfl, _, rfl, va, n, rfl, hvc, n5, fun p H3 cs k3 hv3 hp hpw hb => ?_⟩
      have k03 := kc.trans k3
      have lc3 := k3 _ _ lc nlv
      have hA3 := hA.kpv hvc k3
      refine ⟨_, rfl, .inl ⟨rfl, _, .inl (.inl lc3)⟩, ?_⟩
      refine ⟨_, rfl, (by show 0 ≤ sizeLine; decide), fun pe hpe => ?_⟩
      have s4 := same_new (o := .tup []) hpe
      have hE : Dp K (upd H3 pe (.tup [])) (.ref pe) (.tuple []) := emptyD
      generalize upd H3 pe (.tup []) = H4 at s4 hE ⊢
      have k04 := k03.sameL s4
      have hv4 := hv3.same s4
      have hp4 := s4 _ _ hp
      have lc4 := s4 _ _ lc3
      have hA4 := hA3.same s4
      have app : ∀ {H5 : Hp} {pt : Addr} {ct : List Nat}, Kp va H H5 → VatAt H5 va → H5 lf = some (.lst (as.map V.ref)) → LotsAt K H5 as ss → SqT K H5 pt (ct.map nV) → ct ≠ [] ∧ ct.Pairwise (· < ·) ∧ (∀ c, c ∈ ct → c < n) →
          YInv K H (upd H5 lf (.lst (as.map V.ref ++ [.ref pt]))) va lf n (ss ++ [ct]) := fun {H5 pt ct} k5 hv5 l5 hA5 h5 o5 =>
        ⟨hlf, fun b u e nb => by rw [upd_ne (ne_of_none e hlf)]; exact k5 b u e nb, hv5.upd nlv, fun cs hc => by
          rcases List.mem_append.mp hc with z | z
          · exact ok cs z
          · rw [List.mem_singleton.mp z]; exact o5, as ++ [pt], by rw [upd_same, List.map_append]; rfl, AllAt.snoc (hA5.kp kp_upd l5) (sqT_kp kp_upd l5 h5)⟩
      have sm : (as.map V.ref).length < sizeLine := by
        rw [List.length_map, hA.len, hlen]
        exact small1000 (by omega)
      refine ⟨lotD cs, .tuple [], .tup (.inl (.inl hp4)) (dpNat K _ _), hE, shNat _, by rfl, ?_⟩
      by_cases hne : cs = []
      · refine ⟨false, by rw [hne]; rfl, iteF ?_⟩
        refine ⟨_, rfl, _, rfl, va, n, rfl, hv4, by omega, by omega, fun d3 H5 e0 e1 k5 hv5 => ?_⟩
        refine ⟨(by show 1 ≤ sizeLine; decide), fun pt hpt => ?_⟩
        have s6 := same_new (o := .tup [V.int d3]) hpt
        have lc6 := s6 _ _ (k5 _ _ lc4 nlv)
        refine ⟨lf, _, _, rfl, rfl, lc6, sm, _, _, ss ++ [[d3.toNat]], rfl, app ((k04.trans k5).sameL s6) (hv5.same s6) lc6 ((hA4.kpv hv4 k5).same s6) ?_ ?_, by rw [List.length_append, hlen]; rfl⟩
        · obtain ⟨dn, rfl⟩ := Int.eq_ofNat_of_zero_le e0
          exact .inl (.inl upd_same)
        · refine ⟨by simp, by simp, fun c hc => ?_⟩
          rw [List.mem_singleton.mp hc]; omega
      · refine ⟨true, by rw [lot_ne hne]; rfl, iteT ?_⟩
        refine ⟨_, rfl, lf, _, _, rfl, rfl, lc4, sm, _, _, ss ++ [cs], rfl, app k04 hv4 lc4 hA4 (.inl (.inl hp4)) ⟨hne, hpw, hb⟩, by rw [List.length_append, hlen]; rfl⟩
    · rintro σ Hc ⟨x, y, ss, rfl, hY, hlen⟩
      have hl1 : 1 ≤ ss.length := by omega
      have hl5 : ss.length ≤ 5 := by omega
      refine ⟨_, rfl, _, rfl, by omega, by omega, ?_⟩
      refine for_range (lo := 0) (n := (n : Int).toNat) (fun i σ Hc => ∃ x y z w ss2, σ = [some (.ref va), some (nV n), some (.int 5), some (.ref lf), x, y, z, w] ∧ YInv K H Hc va lf n ss2 ∧ ss2.length = ss.length ∧ ∀ k, k < i → ∃ x, x ∈ ss2 ∧ k ∈ x)
        ⟨x, y, none, none, ss, rfl, hY, rfl, fun k hk => by omega⟩ ?_ ?_
      · rintro i σ Hc hi ⟨x, y, z, w', ss2, rfl, ⟨_, kc, hvc, ok, as, lc, hA⟩, hlen2, cov⟩
        have hin : i < n := by omega
        rw [show V.int (0 + (i : Int)) = nV i by rw [Int.zero_add]]
        have la : (as.map V.ref).length = ss2.length := by rw [List.length_map, hA.len]
        refine ⟨_, rfl, lf, rfl, ⟨_, .inl (.inl lc)⟩, fun D hD => ?_⟩
        refine lc_run (walk_list (K := K) (a := lf) (xs := as.map V.ref)) hD (fun j Hq acc => ∃ bs : List Addr, acc = bs.map V.ref ∧ LotsAt K Hq bs ((ss2.take j).filter fun cs => decide (i ∈ cs))) (fun _ se => .inl (.inl (se _ _ lc))) ?_ (fun _ _ => ⟨[], rfl, by rw [List.take_zero]; exact AllAt.nil⟩) (by rw [la]; exact line_of (by omega)) ?_ ?_
        · rintro j He1 He2 acc ys hy hk ⟨bs, e, hB⟩
          exact ⟨bs, e, hB.kp hk hy⟩
        · rintro j xx Hq H' acc kk kk0 hj se hacc hal ⟨bs, rfl, hB⟩ ⟨rfl, hx⟩ hkk hkk0
          obtain ⟨a1, ha1, rfl⟩ := map_get hx
          rw [la] at hj
          have hcs : ss2[j]? = some ss2[j] := List.getElem?_eq_getElem hj
          have hzT := sqT_same se (hA.at_ j a1 _ ha1 hcs)
          have e := filtL_snoc (fun cs => decide (i ∈ cs)) ss2 hcs
          refine ⟨rfl, _, rfl, _, rfl, a1, _, rfl, .inr hzT, rfl, flat_nat _, _, rfl, ?_⟩
          show if inV (nV i) (ss2[j].map nV) = true then _ else _
          rw [inV_nat]
          refine ite2 (fun c => ⟨_, rfl, hkk _ _ (Same.refl _) ⟨bs ++ [a1], by rw [List.map_append]; rfl, ?_⟩⟩) (fun c => hkk0 _ (Same.refl _) ⟨bs, rfl, ?_⟩)
          · rw [e, if_pos c]
            exact AllAt.snoc hB hzT
          · rw [e, if_neg c, List.append_nil]
            exact hB
        rintro Hq acc se hacc hal ⟨bs, rfl, hB⟩
        rw [la, List.take_length] at hB
        refine ⟨(by show 0 ≤ sizeLine; decide), fun le hle => ?_⟩
        have s4 := same_new (o := .lst []) hle
        have hE : Dp K (upd Hq le (.lst [])) (.ref le) (.list []) := .lst (.inl (.inl upd_same)) .nil
        have hD4 := s4 _ _ hacc
        have hB4 := hB.same s4
        generalize upd Hq le (.lst []) = H4 at s4 hE hD4 hB4 ⊢
        have sc4 := se.trans s4
        have k4 := kc.sameL sc4
        have hv4 := hvc.same sc4
        have lc4 := sc4 _ _ lc
        have hA4 := LotsAt.same sc4 hA
        refine ⟨.list ((ss2.filter fun cs => decide (i ∈ cs)).map lotD), .list [], .lst (.inl (.inl hD4)) (sayD hB4), hE, shLsay _, by rfl, _, rfl, ?_⟩
        rw [eqv_lnil]
        by_cases hF : (ss2.filter fun cs => decide (i ∈ cs)) = []
        · rw [hF]
          refine iteT ?_
          refine ⟨_, rfl, _, rfl, lf, _, rfl, .inl (.inl (.inl lc4)), ?_⟩
          rw [la]
          refine ⟨va, _, rfl, hv4, by omega, by omega, fun d5 H5 e0 e1 k5 hv5 => ?_⟩
          obtain ⟨at_, rfl⟩ := Int.eq_ofNat_of_zero_le e0
          have hat : at_ < ss2.length := by omega
          have lc5 := k5 _ _ lc4 nlv
          have hA5 := hA4.kpv hv4 k5
          have k05 := k4.trans k5
          have hcs : ss2[at_]? = some ss2[at_] := List.getElem?_eq_getElem hat
          obtain ⟨a1, ha1, hz1⟩ := hA5.get hcs
          obtain ⟨o1, o2, o3⟩ := ok _ (List.mem_of_getElem? hcs)
          have hnot : i ∉ ss2[at_] := fun hm => by
            have : ss2[at_] ∈ ss2.filter fun cs => decide (i ∈ cs) := List.mem_filter.mpr ⟨List.mem_of_getElem? hcs, decide_eq_true hm⟩
            rw [hF] at this
            simp at this
          refine ⟨_, rfl, _, rfl, lf, _, _, _, rfl, rfl, .inl (.inl lc5), atI_nat (ref_get ha1), ?_⟩
          refine ⟨_, rfl, (by show 1 ≤ sizeLine; decide), fun pk hpk => ?_⟩
          have s6 := same_new (o := .tup [nV i]) hpk
          have hpk6 : SqT K (upd H5 pk (.tup [nV i])) pk [nV i] := .inl (.inl upd_same)
          generalize upd H5 pk (.tup [nV i]) = H6 at s6 hpk6 ⊢
          have l5 : ss2[at_].length ≤ 5 := by
            rcases asc_len (a := 0) o2 (fun c hc => ⟨Nat.zero_le _, o3 c hc⟩) with z | z
            · omega
            · exact absurd z o1
          refine ⟨a1, pk, _, _, rfl, rfl, sqT_same s6 hz1, hpk6, by simpa using o1, ?_, fun z => absurd z (by simp), fun _ pc hpc => ?_⟩
          · rw [List.length_map]
            exact line_of (by simp; omega)
          have s7 := same_new (o := .tup (ss2[at_].map nV ++ [nV i])) hpc
          have hpc7 : SqT K (upd H6 pc (.tup (ss2[at_].map nV ++ [nV i]))) pc (((ss2[at_] ++ [i]).map fun c : Nat => (c : Int)).map V.int) := by
            have e : ((ss2[at_] ++ [i]).map fun c : Nat => (c : Int)).map V.int = ss2[at_].map nV ++ [nV i] := by
              rw [List.map_map, List.map_append]; rfl
            rw [e]
            exact .inl (.inl upd_same)
          generalize upd H6 pc (.tup (ss2[at_].map nV ++ [nV i])) = H7 at s7 hpc7 ⊢
          refine ⟨pc, _, rfl, hpc7, by simp; omega, fun ns' pl hperm hpw hpl => ?_⟩
          have nd : (ss2[at_] ++ [i]).Nodup := by
            rw [List.nodup_append]
            refine ⟨o2.imp fun h => Nat.ne_of_lt h, by simp, fun a ha b hb => ?_⟩
            rw [List.mem_singleton.mp hb]
            rintro rfl
            exact hnot ha
          obtain ⟨cs', em, pm, pw⟩ := sort_nat hperm hpw nd
          rw [em]
          have s8 := same_new (o := .lst (cs'.map nV)) hpl
          have hpl8 := upd_same (H := H7) (a := pl) (o := .lst (cs'.map nV))
          generalize upd H7 pl (.lst (cs'.map nV)) = H8 at s8 hpl8 ⊢
          refine ⟨pl, _, rfl, .inl ⟨.inl (.inl hpl8), fun pt hpt => ?_⟩⟩
          have s9 := same_new (o := .tup (cs'.map nV)) hpt
          have hpt9 : SqT K (upd H8 pt (.tup (cs'.map nV))) pt (cs'.map nV) := .inl (.inl upd_same)
          generalize upd H8 pt (.tup (cs'.map nV)) = H9 at s9 hpt9 ⊢
          have s59 : Same H5 H9 := s6.trans (s7.trans (s8.trans s9))
          have lc9 := s59 _ _ lc5
          refine ⟨_, rfl, _, rfl, lf, _, _, at_, rfl, rfl, lc9, ?_, ?_⟩
          · rw [la]
            unfold ixN
            rw [if_pos (by omega), if_pos (by omega)]
            rfl
          rw [map_set V.ref]
          have csok : cs' ≠ [] ∧ cs'.Pairwise (· < ·) ∧ ∀ c, c ∈ cs' → c < n := by
            refine ⟨fun z => ?_, pw, fun c hc => ?_⟩
            · have := pm.length_eq
              rw [z] at this
              simp at this
            · rcases List.mem_append.mp (pm.mem_iff.mp hc) with z | z
              · exact o3 c z
              · rw [List.mem_singleton.mp z]; exact hin
          refine ⟨_, _, _, _, ss2.set at_ cs', rfl, ⟨hlf, fun b u e nb => ?_, (hv5.same s59).upd nlv, rowsOk_set ok csok, as.set at_ pt, upd_same, ?_⟩, by rw [List.length_set]; exact hlen2, fun k hk => ?_⟩
          · rw [upd_ne (ne_of_none e hlf)]
            exact s59 _ _ (k05 b u e nb)
          · exact AllAt.set ((hA5.same s59).kp kp_upd lc9) (sqT_kp kp_upd lc9 hpt9)
          · by_cases e : k = i
            · refine ⟨cs', List.mem_iff_getElem.mpr ⟨at_, by rw [List.length_set]; exact hat, by rw [List.getElem_set_self]⟩, ?_⟩
              rw [e]
              exact pm.mem_iff.mpr (by simp)
            · exact cov_set hat (fun c hc => pm.mem_iff.mpr (List.mem_append_left _ hc)) (cov k (by omega))
        · have e0 : ((ss2.filter fun cs => decide (i ∈ cs)).map lotD).isEmpty = false := by
            cases h : (ss2.filter fun cs => decide (i ∈ cs)) with
            | nil => exact absurd h hF
            | cons a b => rfl
          rw [e0]
          refine iteF ⟨_, _, _, _, ss2, rfl, ⟨hlf, k4, hv4, ok, as, lc4, hA4⟩, hlen2, fun k hk => ?_⟩
          by_cases e : k = i
          · obtain ⟨cs, hm⟩ := List.exists_mem_of_ne_nil _ hF
            obtain ⟨h1, h2⟩ := List.mem_filter.mp hm
            exact ⟨cs, h1, by rw [e]; exact of_decide_eq_true h2⟩
          · exact cov k (by omega)
      · rintro σ Hc ⟨x, y, z, w', ss2, rfl, ⟨_, kc, hvc, ok, as, lc, hA⟩, hlen2, cov⟩
        refine ⟨_, rfl, lf, _, rfl, .inl ⟨.inl (.inl lc), fun p hp => ?_⟩⟩
        have s4 := same_new (o := .tup (as.map V.ref)) hp
        refine q p _ ss2 (kc.sameL s4) (hvc.same s4) ⟨as, .inl (.inl upd_same), hA.same s4⟩ (fun z => ?_) (by omega) ok (fun k hk => cov k (by omega))
        rw [z] at hlen2
        simp at hlen2
        omega
end
end Kg

set_option maxHeartbeats 4000000
/-! The walk of the law: its mirror of what is forbidden. -/
namespace Kg
open PySem PySem.Spec PyProof.Rows L2 Mi StX
/-- x[i], x a list or a tuple -/
def rIxS (K : PySem.W.Frag) : R2 := fun x y H Q => rIxT K x y H Q ∨ rIxL K x y H Q
theorem ixS {X : Cx} {K : PySem.W.Frag} (h : X.K = K) : IxR X (rIxS K) := by
  intro value slice pins s σ H x y v u Q I rx ry hq hs
  rcases hq with hq | hq
  · exact ixT h value slice pins s σ H x y v u Q I rx ry hq hs
  · exact ixL h value slice pins s σ H x y v u Q I rx ry hq hs
def spLSaid (K : PySem.W.Frag) : Sp := fun vs H Q _ => ∃ (rp : Addr) (as : List Addr) (ss : List (List Nat)) (k : Nat), vs = [.ref rp, nV k] ∧ (SqL K H rp (as.map V.ref) ∨ SqT K H rp (as.map V.ref)) ∧ LotsAt K H as ss ∧ ss.length ≤ 5 ∧
  ∀ l H', Same H H' → H' l = some (.lst ((said ss k).map nV)) → Q (.ref l) H'
def spLPairs (K : PySem.W.Frag) : Sp := fun vs H Q _ => ∃ (rp : Addr) (n : Nat) (ss : List (List Nat)), vs = [nV n, .ref rp] ∧ SayAt K H rp ss ∧ n ≤ 5 ∧ ss.length ≤ 5 ∧
  ∀ l H' as, H l = none → Same H H' → H' l = some (.lst (as.map V.ref)) → AllAt (PairAt K H') as (prs ss n) → Q (.ref l) H'
theorem sqL_same {K : PySem.W.Frag} {H H' : Hp} {a : Addr} {xs : List V} (e : Same H H') (h : SqL K H a xs) : SqL K H' a xs := by
  rcases h with (h | ⟨o, h⟩) | h
  · exact .inl (.inl (e _ _ h))
  · exact .inl (.inr ⟨o, e _ _ h⟩)
  · exact .inr h
section
variable {P : Program} {w : World} {K : PySem.W.Frag} {mg : Str → Option Value} {base : Heap} (T : Tx K mg)
include T
theorem C_law_below : Cb P w K mg base "_law_below" 1 ["_law_here", "_law_there"] (spLess K) := by
  refine cb_of T d_law_below n_law_below rfl m_glo_law_below sc_law_below ba_law_below ?_ ?_
  · rintro vs H Q E ⟨a, b, p, q, rfl, _⟩; rfl
  · rintro f cdv A outer s H vs Q E hr ⟨a, b, p, q, rfl, ha, hb, sp, sq, k⟩
    refine ⟨_, (pss_one (ps_ret (pe_cmpR op_lt (pe_op op_mulW (pe_ix (ixT (K := K) rfl) (pv 0) pe_int (fun _ _ => rfl)) (pe_ix (ixT (K := K) rfl) (pv 1) pe_int (fun _ _ => rfl))) (pe_op op_mulW (pe_ix (ixT (K := K) rfl) (pv 1) pe_int (fun _ _ => rfl)) (pe_ix (ixT (K := K) rfl) (pv 0) pe_int (fun _ _ => rfl))) (nomark _)))), ?_⟩
    refine ⟨_, rfl, a, _, _, _, rfl, rfl, ha, rfl, _, rfl, b, _, _, _, rfl, rfl, hb, rfl, _, _, rfl, rfl, mul_ok sp.num (sz_nat sq) (by decide),
      _, rfl, b, _, _, _, rfl, rfl, hb, rfl, _, rfl, a, _, _, _, rfl, rfl, ha, rfl, _, _, rfl, rfl, mul_ok sq.num (sz_nat sp) (by decide), _, _, rfl, rfl, ?_⟩
    have e : decide (p < q) = decide (p.num * (q.den : Nat) < q.num * (p.den : Nat)) := by
      rw [Bool.eq_iff_iff, decide_eq_true_iff, decide_eq_true_iff]
      exact Rat.lt_iff p q
    rw [e] at k
    exact k
theorem C_law_said : Cb P w K mg base "_law_said" 1 ["_law_rows", "_law_k"] (spLSaid K) := by
  refine cb_of T d_law_said n_law_said rfl m_glo_law_said sc_law_said ba_law_said ?_ ?_
  · rintro vs H Q E ⟨rp, as, ss, k, rfl, _⟩; rfl
  · rintro f cdv A outer s H vs Q E hr ⟨rp, as, ss, k, rfl, hR, hA, m5, q⟩
    refine ⟨_, (pss_one (ps_ret (pe_lc (own := [("_law_at", 2)]) (by rfl) sc_law_said.nd (pi_range1 (by rfl) (T.free "range" m_free_range) (pa_cons (pe_callB (callLen (K := K) rfl) (by rfl) (T.free "len" m_free_len) bt_len (pa_cons (pv 0) pa_nil)) pa_nil)) (blkOk_by (own := [("_law_at", 2)]) (N := N_law_said) (sc := defScope s_law_said) (by decide +kernel)) (fun _ _ _ _ _ => pg_name (i := 2) sc_law_said.nd rfl (Or.inl rfl)) (fun _ _ _ _ _ => pts_one (pt_cmpR (opIn (K := K) rfl) (pv 1) (pe_ix (ixS (K := K) rfl) (pv 0) (pv 2) (fun _ _ => rfl)) (by rfl))) (fun _ _ _ _ _ => (pv 2))))), ?_⟩
    have la : (as.map V.ref).length = ss.length := by rw [List.length_map, hA.len]
    refine ⟨_, rfl, rp, _, rfl, hR, _, rfl, by rw [la]; omega, by rw [la]; omega, fun D hD => ?_⟩
    rw [la]
    refine lc_run (walk_range (lo := 0) (n := ((ss.length : Nat) : Int).toNat)) hD (fun i H acc => acc = ((List.range i).filter fun i => decide (k ∈ ss.getD i [])).map nV) (fun _ _ => trivial) (fun _ _ _ _ _ _ _ h => h) (fun _ _ => rfl) (line_of (by omega)) ?_ ?_
    · rintro i x H1 H' acc kk kk0 hi s1 hacc hal rfl ⟨rfl, rfl⟩ hk hk0
      have hi2 : i < ss.length := by omega
      have hcs : ss[i]? = some ss[i] := List.getElem?_eq_getElem hi2
      have hg : ss.getD i [] = ss[i] := by rw [List.getD_eq_getElem?_getD, hcs]; rfl
      obtain ⟨z, hz, hzT⟩ := (LotsAt.same s1 hA).get hcs
      have e := said_snoc ss k i
      have zi : V.int (0 + (i : Int)) = nV i := by rw [Int.zero_add]
      have at0 : atI (as.map V.ref) (0 + (i : Int)) = some (.ref z) := by
        rw [Int.zero_add]
        exact atI_nat (ref_get hz)
      refine ⟨rfl, _, rfl, _, rfl, _, rfl, ?_⟩
      rcases hR with hR | hR
      · refine .inr ⟨rp, _, _, _, rfl, rfl, sqL_same s1 hR, at0, z, _, rfl, .inr hzT, rfl, flat_nat _, _, rfl, ?_⟩
        show if inV (nV k) (ss[i].map nV) = true then _ else _
        rw [inV_nat]
        refine ite2 (fun c => ⟨_, rfl, hk _ _ (Same.refl _) ?_⟩) (fun c => hk0 _ (Same.refl _) ?_)
        · rw [e, hg, if_pos (of_decide_eq_true c), List.map_append]
          show _ ++ [V.int (0 + (i : Int))] = _
          rw [zi]; rfl
        · rw [e, hg, if_neg (fun z => c (decide_eq_true z)), List.append_nil]
      · refine .inl ⟨rp, _, _, _, rfl, rfl, sqT_same s1 hR, at0, z, _, rfl, .inr hzT, rfl, flat_nat _, _, rfl, ?_⟩
        show if inV (nV k) (ss[i].map nV) = true then _ else _
        rw [inV_nat]
        refine ite2 (fun c => ⟨_, rfl, hk _ _ (Same.refl _) ?_⟩) (fun c => hk0 _ (Same.refl _) ?_)
        · rw [e, hg, if_pos (of_decide_eq_true c), List.map_append]
          show _ ++ [V.int (0 + (i : Int))] = _
          rw [zi]; rfl
        · rw [e, hg, if_neg (fun z => c (decide_eq_true z)), List.append_nil]
    · rintro H1 acc s1 hacc hal rfl
      rw [Int.toNat_natCast] at hacc
      exact q D H1 s1 hacc
theorem C_law_pairs : Cb P w K mg base "_law_pairs" 2 ["_law_many", "_law_rows"] (spLPairs K) := by
  refine cb_of T d_law_pairs n_law_pairs rfl m_glo_law_pairs sc_law_pairs ba_law_pairs ?_ ?_
  · rintro vs H Q E ⟨rp, n, ss, rfl, _⟩; rfl
  · rintro f cdv A outer s H vs Q E hr ⟨rp, n, ss, rfl, ⟨ra, hra, hrA⟩, n5, m5, q⟩
    refine ⟨_, (pss_cons (ps_set (i := 2) sc_law_pairs.nd rfl (Or.inl rfl) (pe_lst pa_nil))
    (pss_cons (ps_for PassesOwn.never rfl (pi_range1 (by rfl) (T.free "range" m_free_range) (pa_cons (pv 0) pa_nil)) (pg_name (i := 3) sc_law_pairs.nd rfl (Or.inr rfl))
      (pss_one (ps_set (i := 2) sc_law_pairs.nd rfl (Or.inl rfl) (pe_op op_cat (pv 2) (pe_lc (own := [("_law_at", 4)]) (by rfl) sc_law_pairs.nd (piL (K := K) rfl (pe_cb (C_law_said T) (hr.mono (by decide)) (by rfl) (pa_cons (pv 1) (pa_cons (pv 3) pa_nil)))) (blkOk_by (own := [("_law_at", 4)]) (N := N_law_pairs) (sc := defScope s_law_pairs) (by decide +kernel)) (fun _ _ _ _ _ => pg_name (i := 4) sc_law_pairs.nd rfl (Or.inl rfl)) (fun _ _ _ _ _ => pts_nil) (fun _ _ _ _ _ => (pe_tup (pa_cons (pv 3) (pa_cons (pv 4) pa_nil)))))))))
    (pss_one (ps_ret (pv 2))))), ?_⟩
    refine ⟨(by show 0 ≤ sizeLine; decide), fun lf hlf => ?_⟩
    have s1 := same_new (o := .lst []) hlf
    have l1 := upd_same (H := H) (a := lf) (o := .lst [])
    generalize upd H lf (.lst []) = H1 at s1 l1 ⊢
    refine ⟨_, rfl, _, rfl, by omega, by omega, ?_⟩
    refine for_range (lo := 0) (n := (n : Int).toNat) (fun i σ Hc => ∃ l y z, σ = [some (nV n), some (.ref rp), some (.ref l), y, z] ∧ LInv K H Hc l (prs ss i)) ⟨lf, none, none, rfl, hlf, s1, [], l1, AllAt.nil⟩ ?_ ?_
    · rintro i σ Hc hi ⟨l, y, z, rfl, fl, sc, as, lc, hA⟩
      rw [show V.int (0 + (i : Int)) = nV i by rw [Int.zero_add]]
      refine ⟨_, rfl, _, rfl, _, rfl, rp, ra, ss, i, rfl, .inr (sqT_same sc hra), LotsAt.same sc hrA, m5, fun p H2 s2 hp => ?_⟩
      refine ⟨p, rfl, ⟨_, .inl (.inl hp)⟩, fun D hD => ?_⟩
      have hlp : ((said ss i).map nV).length = (said ss i).length := List.length_map _
      have hsl := said_len ss i
      refine lc_run (walk_list (K := K) (a := p) (xs := (said ss i).map nV)) hD (fun j Hq acc => ∃ cs : List Addr, acc = cs.map V.ref ∧ AllAt (PairAt K Hq) cs (((said ss i).take j).map fun s => (i, s))) (fun _ se => .inl (.inl (se _ _ hp))) ?_ (fun _ _ => ⟨[], rfl, by rw [List.take_zero]; exact AllAt.nil⟩) (by rw [hlp]; exact line_of (by omega)) ?_ ?_
      · rintro j He1 He2 acc ys hy hk ⟨cs, e, hC⟩
        exact ⟨cs, e, pair_kp hk hy hC⟩
      · rintro j xx Hq H' acc k k0 hj se hacc hal ⟨cs, rfl, hC⟩ ⟨rfl, hx⟩ hk _
        obtain ⟨x1, hx1, rfl⟩ := map_get hx
        refine ⟨rfl, _, rfl, _, rfl, (by show 2 ≤ sizeLine; decide), fun a ha => ?_⟩
        have sp := same_new (o := .tup [nV i, nV x1]) ha
        refine hk _ _ sp ⟨cs ++ [a], by rw [List.map_append]; rfl, ?_⟩
        rw [List.take_succ, hx1, List.map_append]
        exact (pair_same sp hC).snoc (.inl (.inl upd_same))
      · rintro Hq acc se hacc hal ⟨cs, rfl, hC⟩
        rw [hlp, List.take_length] at hC
        have lq := se _ _ (s2 _ _ lc)
        refine ⟨l, D, _, _, rfl, rfl, lq, hacc, ?_, fun l2 hl2 => ?_⟩
        · have h1 := prs_len ss i
          have h2 := hA.len
          have h3 := hC.len
          have h4 : i * ss.length ≤ 5 * 5 := Nat.mul_le_mul (by omega) m5
          simp only [List.length_map] at h3 ⊢
          exact line_of (by omega)
        have s0q := sc.trans (s2.trans se)
        have sn := same_new (o := .lst (as.map V.ref ++ cs.map V.ref)) hl2
        refine ⟨l2, _, _, rfl, s0q.free hl2, s0q.trans sn, as ++ cs, ?_, ?_⟩
        · rw [upd_same, List.map_append]
        · rw [prs_succ]
          exact pair_same sn (AllAt.app (pair_same (s2.trans se) hA) hC)
    · rintro σ Hc ⟨l, y, z, rfl, fl, sc, as, lc, hA⟩
      rw [Int.toNat_natCast] at hA
      exact ⟨_, rfl, q l Hc as fl sc lc hA⟩
end
end Kg

set_option maxHeartbeats 4000000
/-! The walk of the law: its tellers without a pair. -/
namespace Kg
open PySem PySem.Spec PyProof.Rows L2 Mi StX
theorem shLNat (cs : List Nat) : SeqAt.shaped (.list (cs.map dI)) = true := by
  have h := depNat cs
  show ((PyData.canLay0 (.list (cs.map dI))) && decide (PyData.depth (.list (cs.map dI)) ≤ 64)) = true
  rw [Bool.and_eq_true]
  refine ⟨?_, decide_eq_true (by simp only [PyData.depth]; omega)⟩
  show PyData.canLayAll0 (cs.map dI) = true
  exact canNat cs
def uncov (n : Nat) (ss : List (List Nat)) : List Nat := (List.range n).filter fun k => (said ss k).isEmpty
theorem said_nil (ss : List (List Nat)) (k : Nat) : (said ss k).isEmpty = !(ss.any fun cs => decide (k ∈ cs)) := by
  rw [Bool.eq_iff_iff, List.isEmpty_iff, Bool.not_eq_true', Bool.eq_false_iff]
  unfold said
  rw [List.filter_eq_nil_iff]
  constructor
  · intro h z
    obtain ⟨cs, h1, h2⟩ := List.any_eq_true.mp z
    obtain ⟨i, hi, rfl⟩ := List.mem_iff_getElem.mp h1
    refine h i (List.mem_range.mpr hi) ?_
    rw [List.getD_eq_getElem?_getD, List.getElem?_eq_getElem hi]
    exact h2
  · intro h i hi z
    rw [List.mem_range] at hi
    rw [List.getD_eq_getElem?_getD, List.getElem?_eq_getElem hi] at z
    exact h (List.any_eq_true.mpr ⟨ss[i], List.getElem_mem _, z⟩)
theorem uncov_nil (n : Nat) (ss : List (List Nat)) : (uncov n ss).isEmpty = (List.range n).all fun k => ss.any fun cs => decide (k ∈ cs) := by
  rw [Bool.eq_iff_iff, List.isEmpty_iff, List.all_eq_true]
  unfold uncov
  rw [List.filter_eq_nil_iff]
  constructor
  · intro h k hk
    have := h k hk
    rw [said_nil] at this
    simpa using this
  · intro h k hk
    rw [said_nil, h k hk]
    decide
theorem uncov_succ (ss : List (List Nat)) (i : Nat) : uncov (i + 1) ss = uncov i ss ++ if (said ss i).isEmpty = true then [i] else [] := by
  unfold uncov
  rw [List.range_succ, List.filter_append]
  congr 1
  by_cases c : (said ss i).isEmpty = true
  · rw [if_pos c, List.filter_cons, if_pos c]; rfl
  · rw [if_neg c, List.filter_cons, if_neg c]; rfl
theorem isE_map {α β : Type} (f : α → β) (l : List α) : (l.map f).isEmpty = l.isEmpty := by cases l <;> rfl
def spLLess (K : PySem.W.Frag) : Sp := fun vs H Q _ => ∃ (hw rp pl pa : Addr) (ws : List Int) (ss : List (List Nat)) (p : Nat × Nat), vs = [.ref hw, .ref rp, .ref pl] ∧ SqT K H hw (ws.map V.int) ∧ SayAt K H rp ss ∧ Val ws ss ∧ H pl = some (.lst [.ref pa]) ∧ PairAt K H pa p ∧
  (lessOk ws.length (lessS ss p) = false → ∀ l H', H l = none → Same H H' → H' l = some (.lst []) → Q (.ref l) H') ∧ (lessOk ws.length (lessS ss p) = true → ∀ l t H', H l = none → Same H H' → H' l = some (.lst [.ref t]) → TelAt K H' t ws (lessS ss p) → Q (.ref l) H')
section
variable {P : Program} {w : World} {K : PySem.W.Frag} {mg : Str → Option Value} {base : Heap} (T : Tx K mg)
include T
theorem C_law_less : Cb P w K mg base "_law_less" 7 ["_law_loads", "_law_rows", "_law_pairs_here"] (spLLess K) := by
  refine cb_of T d_law_less n_law_less rfl m_glo_law_less sc_law_less ba_law_less ?_ ?_
  · rintro vs H Q E ⟨hw, rp, pl, pa, ws, ss, p, rfl, _⟩; rfl
  · rintro f cdv A outer s H vs Q E hr ⟨hw, rp, pl, pa, ws, ss, p, rfl, g3, ⟨as, ha, hA⟩, v, hpl, hpa, qN, qT⟩
    refine ⟨_, (pss_cons (ps_set (i := 3) sc_law_less.nd rfl (Or.inr rfl) (pe_lst pa_nil))
    (pss_cons (ps_for PassesOwn.never rfl (pi_range1 (by rfl) (T.free "range" m_free_range) (pa_cons (pe_callB (callLen (K := K) rfl) (by rfl) (T.free "len" m_free_len) bt_len (pa_cons (pv 1) pa_nil)) pa_nil)) (pg_name (i := 4) sc_law_less.nd rfl (Or.inr rfl))
      (pss_one (ps_expr (pe_bm PySem.F.plainAttrs_list PySem.F.slot_list_append PySem.F.type_list_append mt_append (pv 3) (pa_cons (pe_callTy (callTup (K := K) rfl) (by rfl) (T.free "tuple" m_free_tuple) bt_tuple (pa_cons (pe_lc (own := [("_law_k", 5)]) (by rfl) sc_law_less.nd (piT (K := K) rfl (pe_ix (ixT (K := K) rfl) (pv 1) (pv 4) (fun _ _ => rfl))) (blkOk_by (own := [("_law_k", 5)]) (N := N_law_less) (sc := defScope s_law_less) (by decide +kernel)) (fun _ _ _ _ _ => pg_name (i := 5) sc_law_less.nd rfl (Or.inl rfl)) (fun _ _ _ _ _ => pts_one (pt_cmpR (opNotInDD (K := K) rfl hr.units) (pe_tup (pa_cons (pv 5) (pa_cons (pv 4) pa_nil))) (pv 2) (by rfl))) (fun _ _ _ _ _ => (pv 5))) pa_nil)) pa_nil)))))
    (pss_cons (ps_if (PW.pt (pw_or (pt_cmpR (opInDD (K := K) rfl hr.units) (pe_tup pa_nil) (pv 3) (by rfl)) (pw_or1 (pt_cmpR (opNeD (K := K) rfl hr.units) (pe_lc (own := [("_law_k", 5)]) (by rfl) sc_law_less.nd (pi_range1 (by rfl) (T.free "range" m_free_range) (pa_cons (pe_callB (callLen (K := K) rfl) (by rfl) (T.free "len" m_free_len) bt_len (pa_cons (pv 0) pa_nil)) pa_nil)) (blkOk_by (own := [("_law_k", 5)]) (N := N_law_less) (sc := defScope s_law_less) (by decide +kernel)) (fun _ _ _ _ _ => pg_name (i := 5) sc_law_less.nd rfl (Or.inl rfl)) (fun _ _ _ _ _ => pts_one (pt_cmpR (opEqD (K := K) rfl hr.units) (pe_cb (C_law_said T) (hr.mono (by decide)) (by rfl) (pa_cons (pv 3) (pa_cons (pv 5) pa_nil))) (pe_lst pa_nil) (nomark _))) (fun _ _ _ _ _ => (pv 5))) (pe_lst pa_nil) (nomark _)))))
      (pss_one (ps_ret (pe_lst pa_nil)))
      pss_nil)
    (pss_one (ps_ret (pe_lst (pa_cons (pe_mk (M_Teller T) (hr.mono (by decide)) (by rfl) (pa_cons (pv 0) (pa_cons (pe_callTy (callTup (K := K) rfl) (by rfl) (T.free "tuple" m_free_tuple) bt_tuple (pa_cons (pv 3) pa_nil)) pa_nil))) pa_nil))))))), ?_⟩
    have hlw : (ws.map V.int).length = ws.length := List.length_map _
    have hls : (as.map V.ref).length = ss.length := by rw [List.length_map, hA.len]
    have n5 := v.n5
    have m5 := v.m5
    refine ⟨(by show 0 ≤ sizeLine; decide), fun lf hlf => ?_⟩
    have s1 := same_new (o := .lst []) hlf
    have l1 := upd_same (H := H) (a := lf) (o := .lst [])
    generalize upd H lf (.lst []) = H1 at s1 l1 ⊢
    refine ⟨_, rfl, rp, _, rfl, .inr (sqT_same s1 ha), _, rfl, ?_, ?_, ?_⟩
    · rw [hls]; omega
    · rw [hls]; omega
    rw [hls]
    refine for_range (lo := 0) (n := ((ss.length : Nat) : Int).toNat) (fun i σ Hc => ∃ x y, σ = [some (.ref hw), some (.ref rp), some (.ref pl), some (.ref lf), x, y] ∧ SInv K H Hc lf ((lessS ss p).take i)) ⟨none, none, rfl, hlf, s1, [], l1, AllAt.nil⟩ ?_ ?_
    · rintro i σ Hc hi0 ⟨x0, y0, rfl, _, sc, bs, lc, hB⟩
      have hi : i < ss.length := by omega
      rw [show V.int (0 + (i : Int)) = nV i by rw [Int.zero_add]]
      have hcs : ss[i]? = some ss[i] := List.getElem?_eq_getElem hi
      have hgd : ss.getD i [] = ss[i] := by rw [List.getD_eq_getElem?_getD, hcs]; rfl
      obtain ⟨z, hz, hzT0⟩ := hA.get hcs
      have hzT := sqT_same sc hzT0
      have r4 := v.short (List.mem_of_getElem? hcs)
      have hlz : (ss[i].map nV).length = ss[i].length := List.length_map _
      refine ⟨_, rfl, .inl ⟨rfl, _, .inl (.inl lc)⟩, ?_⟩
      refine ⟨_, rfl, _, rfl, rp, _, _, _, rfl, rfl, sqT_same sc ha, atI_nat (ref_get hz), z, rfl, ⟨_, hzT⟩, fun D hD => ?_⟩
      refine lc_run (walk_tup (K := K) (a := z) (xs := ss[i].map nV)) hD (fun j Hq acc => acc = (((ss[i].take j).filter fun c => !decide (p = (c, i))).map nV)) (fun _ se => sqT_same se hzT) (fun _ _ _ _ _ _ _ h => h) (fun _ _ => rfl) (by rw [hlz]; exact line_of (by omega)) ?_ ?_
      · rintro j xx Hq H' acc k k0 hj se hacc hal rfl ⟨rfl, hx⟩ hk hk0
        obtain ⟨x1, hx1, rfl⟩ := map_get hx
        have e := filt_snoc (fun c => !decide (p = (c, i))) ss[i] hx1
        refine ⟨rfl, _, rfl, _, rfl, (by show 2 ≤ sizeLine; decide), fun a ha1 => ?_⟩
        have sp := same_new (o := .tup [nV x1, nV i]) ha1
        have hpn : PairAt K (upd H' a (.tup [nV x1, nV i])) a (x1, i) := .inl (.inl upd_same)
        have sall := sc.trans (se.trans sp)
        refine ⟨_, rfl, pairD (x1, i), [pairD p], pairDp hpn, .inl (.lst (.inl (.inl (sall _ _ hpl))) (.cons (pairDp (sqT_same sall hpa)) .nil)), by rfl, by rfl, (by simp only [pairD, PyData.depth, PyData.depthAll]; omega), _, rfl, ?_⟩
        rw [show (true ^^ ([pairD p].any fun z => PyData.eqv z (pairD (x1, i)))) = !decide (p = (x1, i)) by
          simp only [List.any_cons, List.any_nil, Bool.or_false, Bool.true_xor, pairD_eq]]
        refine ite2 (fun c => ⟨_, rfl, hk _ _ sp ?_⟩) (fun c => hk0 _ sp ?_)
        · rw [e, if_pos c, List.map_append]; rfl
        · rw [e, if_neg (by simpa using c), List.append_nil]
      · rintro Hq acc se hacc hal rfl
        rw [hlz, List.take_length] at hacc
        refine ⟨D, _, rfl, .inl ⟨.inl (.inl hacc), fun pt hpt => ?_⟩⟩
        have lq := se _ _ lc
        have spt := same_new (o := .tup ((ss[i].filter fun c => !decide (p = (c, i))).map nV)) hpt
        refine ⟨lf, _, _, rfl, rfl, spt _ _ lq, ?_, ?_⟩
        · rw [List.length_map, hB.len, List.length_take]
          have := lessS_len ss p
          exact Nat.lt_of_le_of_lt (Nat.min_le_right _ _) (small1000 (by omega))
        refine ⟨_, _, rfl, hlf, fun b u e => ?_, bs ++ [pt], ?_, ?_⟩
        · rw [upd_ne (ne_of_none e hlf)]
          exact spt _ _ (se _ _ (sc _ _ e))
        · rw [upd_same, List.map_append]; rfl
        · rw [List.take_succ, lessS_get hi, hgd]
          refine LotsAt.kp kp_upd (spt _ _ lq) ?_
          exact AllAt.snoc (LotsAt.same (se.trans spt) hB) (.inl (.inl upd_same))
    · rintro σ Hc ⟨x0, y0, rfl, _, sc, bs, lc, hB⟩
      rw [Int.toNat_natCast, ← lessS_len ss p, List.take_length] at hB
      have hm5 := lessS_len ss p
      have hl5 : (bs.map V.ref).length = (lessS ss p).length := by rw [List.length_map, hB.len]
      have ret : ∀ {H3 : Hp}, Same H H3 → lessOk ws.length (lessS ss p) = false → 0 ≤ sizeLine ∧ ∀ l, H3 l = none → Q (.ref l) (upd H3 l (.lst [])) := fun {H3} s3 hno => ⟨by decide, fun l hl => qN hno l _ (s3.free hl) (s3.trans (same_new hl)) upd_same⟩
      -- () in fresh
      refine ⟨(by show 0 ≤ sizeLine; decide), fun pe hpe => ?_⟩
      have s2 := same_new (o := .tup []) hpe
      have hE : Dp K (upd Hc pe (.tup [])) (.ref pe) (.tuple []) := emptyD
      have lc2 := s2 _ _ lc
      have hB2 := LotsAt.same s2 hB
      generalize upd Hc pe (.tup []) = H2 at s2 hE lc2 hB2 ⊢
      have sc2 := sc.trans s2
      refine ⟨_, rfl, .tuple [], (lessS ss p).map lotD, hE, .inl (.lst (.inl (.inl lc2)) (sayD hB2)), by rfl, canSay _, (by simp only [PyData.depth, PyData.depthAll]; omega), _, rfl, ?_⟩
      rw [Bool.false_xor, any_nil]
      by_cases hnil : ([] : List Nat) ∈ lessS ss p
      · rw [decide_eq_true hnil]
        refine iteT (iteT (ret sc2 ?_))
        unfold lessOk
        rw [decide_eq_true hnil]; rfl
      rw [decide_eq_false hnil]
      refine iteF ?_
      -- what is in no lot
      refine ⟨_, rfl, hw, _, rfl, .inr (sqT_same sc2 g3), _, rfl, ?_, ?_, fun D hD => ?_⟩
      · rw [hlw]; omega
      · rw [hlw]; omega
      rw [hlw]
      refine lc_run (walk_range (lo := 0) (n := ((ws.length : Nat) : Int).toNat)) hD (fun i H acc => acc = (uncov i (lessS ss p)).map nV) (fun _ _ => trivial) (fun _ _ _ _ _ _ _ h => h) (fun _ _ => rfl) (line_of (by omega)) ?_ ?_
      · rintro i x H3 H' acc k k0 hi s3 hacc hal rfl ⟨rfl, rfl⟩ hk hk0
        have zi : V.int (0 + (i : Int)) = nV i := by rw [Int.zero_add]
        have e := uncov_succ (lessS ss p) i
        refine ⟨rfl, _, rfl, _, rfl, lf, bs, lessS ss p, i, by rw [← zi]; rfl, .inl (.inl (.inl (s3 _ _ lc2))), LotsAt.same s3 hB2, by omega, fun l H4 s4 hl => ?_⟩
        refine ⟨(by show 0 ≤ sizeLine; decide), fun le hle => ?_⟩
        have s5 := same_new (o := .lst []) hle
        have hE5 : Dp K (upd H4 le (.lst [])) (.ref le) (.list []) := .lst (.inl (.inl upd_same)) .nil
        have s45 := s4.trans s5
        refine ⟨.list ((said (lessS ss p) i).map dI), .list [], .lst (.inl (.inl (s5 _ _ hl))) (dpNat K _ _), hE5, shLNat _, by rfl, _, rfl, ?_⟩
        rw [eqv_lnil, isE_map]
        refine ite2 (fun c => ⟨_, rfl, hk _ _ s45 ?_⟩) (fun c => hk0 _ s45 ?_)
        · rw [e, if_pos c, List.map_append]
          show _ ++ [V.int (0 + (i : Int))] = _
          rw [zi]; rfl
        · rw [e, if_neg c, List.append_nil]
      · rintro H3 acc s3 hacc hal rfl
        rw [Int.toNat_natCast] at hacc
        refine ⟨(by show 0 ≤ sizeLine; decide), fun le hle => ?_⟩
        have s5 := same_new (o := .lst []) hle
        have hE5 : Dp K (upd H3 le (.lst [])) (.ref le) (.list []) := .lst (.inl (.inl upd_same)) .nil
        have hacc5 := s5 _ _ hacc
        generalize upd H3 le (.lst []) = H5 at s5 hE5 hacc5 ⊢
        have s25 := s3.trans s5
        have sc5 := sc2.trans s25
        refine ⟨.list ((uncov ws.length (lessS ss p)).map dI), .list [], .lst (.inl (.inl hacc5)) (dpNat K _ _), hE5, shLNat _, by rfl, _, rfl, ?_⟩
        rw [eqv_lnil, isE_map, uncov_nil]
        by_cases hall : ((List.range ws.length).all fun k => (lessS ss p).any fun cs => decide (k ∈ cs)) = true
        · have ok : lessOk ws.length (lessS ss p) = true := by
            unfold lessOk
            rw [decide_eq_false hnil, hall]; rfl
          rw [hall]
          refine iteF ?_
          have v2 := v.less ok
          have hB3 := LotsAt.same s25 hB2
          have lc3 := s25 _ _ lc2
          refine ⟨_, rfl, _, rfl, lf, _, rfl, .inl ⟨.inl (.inl lc3), fun pt hpt => ?_⟩⟩
          have s6 := same_new (o := .tup (bs.map V.ref)) hpt
          have hSn : SayAt K (upd H5 pt (.tup (bs.map V.ref))) pt (lessS ss p) := ⟨bs, .inl (.inl upd_same), LotsAt.same s6 hB3⟩
          generalize upd H5 pt (.tup (bs.map V.ref)) = H6 at s6 hSn ⊢
          have sc6 := sc5.trans s6
          intro x dx hx hdx hne
          have s7 := same_newt (o := .ins (He.ga K "Teller") dx []) (same_new (o := .own x) hdx) (by rw [upd_ne (Ne.symm hne)]; exact hx)
          refine ⟨x, dx, hw, pt, ws, lessS ss p, rfl, upd_same, sqT_same (sc6.trans s7) g3, hSn.same s7, v2, fun H8 k8 ht8 => ⟨rfl, ?_⟩⟩
          have s68 : Same H H8 := sc6.trans fun b u e => k8 _ _ (s7 _ _ e) (ne_of_none e hx)
          refine ⟨(by show 1 ≤ sizeLine; decide), fun l hl => ?_⟩
          exact qT ok l x _ (s68.free hl) (s68.trans (same_new hl)) upd_same (ht8.same (same_new hl))
        · have ok : lessOk ws.length (lessS ss p) = false := by
            unfold lessOk
            rw [Bool.eq_false_iff.mpr hall, Bool.and_false]
          rw [Bool.eq_false_iff.mpr hall]
          exact iteT (ret sc5 ok)
end
end Kg

set_option maxHeartbeats 4000000
/-! The walk of the law: the vat made, tools for its main part. -/
namespace Kg
open PySem PySem.Spec PyProof.Rows L2 Mi StX
/-! ### pairs shown -/
def dueD (ps : List (Nat × Nat)) : PyData := .tuple (ps.map pairD)
def repD (ps : List (Nat × Nat)) : PyData := .list [dueD ps, dueD ps]
theorem pairs_dp {K : PySem.W.Frag} {H : Hp} : ∀ {as : List Addr} {ps : List (Nat × Nat)}, AllAt (PairAt K H) as ps → DpAll K H (as.map V.ref) (ps.map pairD)
  | [], [], _ => .nil
  | [], _ :: _, h => by have := h.len; simp at this
  | _ :: _, [], h => by have := h.len; simp at this
  | a :: as, p :: ps, h => .cons (pairDp (h.at_ 0 a p rfl rfl)) (pairs_dp ⟨by have := h.len; simpa using this, fun i b q e1 e2 => h.at_ (i + 1) b q (by simpa using e1) (by simpa using e2)⟩)
theorem dueDp {K : PySem.W.Frag} {H : Hp} {a : Addr} {as : List Addr} {ps : List (Nat × Nat)} (h : SqT K H a (as.map V.ref)) (hA : AllAt (PairAt K H) as ps) : Dp K H (.ref a) (dueD ps) := .tup h (pairs_dp hA)
def Small (ps : List (Nat × Nat)) : Prop := ∀ p, p ∈ ps → p.1 < 1000 ∧ p.2 < 1000
theorem Small.tl {p : Nat × Nat} {ps : List (Nat × Nat)} (h : Small (p :: ps)) : Small ps := fun q hq => h q (List.mem_cons_of_mem _ hq)
theorem int_show {c : Nat} (h : c < 1000) : decide ((c : Int).natAbs.log2 < 1920) = true := by
  refine decide_eq_true (log_small ?_)
  have : (2 : Nat) ^ 30 = 1073741824 := by decide
  omega
theorem show_all : ∀ ps : List (Nat × Nat), Small ps → PyData.showableAll (ps.map pairD) = true
  | [], _ => rfl
  | p :: ps, h => by
    obtain ⟨h1, h2⟩ := h p List.mem_cons_self
    simp only [List.map_cons, PyData.showableAll, pairD, PyData.showable, int_show h1, int_show h2, show_all ps h.tl, Bool.and_true]
theorem dict_all : ∀ ps : List (Nat × Nat), PyData.hasDictAll (ps.map pairD) = false
  | [] => rfl
  | p :: ps => by simp only [List.map_cons, PyData.hasDictAll, pairD, PyData.hasDict, dict_all ps, Bool.or_false]
theorem lay_all : ∀ ps : List (Nat × Nat), PyData.canLayAll0 (ps.map pairD) = true
  | [] => rfl
  | p :: ps => by
    show (PyData.canLay0 (pairD p) && PyData.canLayAll0 (ps.map pairD)) = true
    rw [lay_all ps]; rfl
theorem dep_all : ∀ ps : List (Nat × Nat), PyData.depthAll (ps.map pairD) ≤ 2
  | [] => by simp [PyData.depthAll]
  | p :: ps => by
    have := dep_all ps
    simp only [List.map_cons, PyData.depthAll, pairD, PyData.depth] at this ⊢
    omega
theorem w_int {c : Nat} (h : c < 1000) : PyData.weight (dI c) ≤ 1000 := by
  simp only [PyData.weight]
  split
  · omega
  · have h1 := Nat.log2_le_self ((c : Int).natAbs)
    have h2 : (c : Int).natAbs = c := by omega
    rw [h2] at h1 ⊢
    omega
theorem wt_all : ∀ ps : List (Nat × Nat), Small ps → PyData.weightAll (ps.map pairD) ≤ ps.length * 2003
  | [], _ => by simp [PyData.weightAll]
  | p :: ps, h => by
    obtain ⟨h1, h2⟩ := h p List.mem_cons_self
    have i1 := w_int h1
    have i2 := w_int h2
    have := wt_all ps h.tl
    have e1 : PyData.weight (pairD p) = PyData.weight (dI p.1) + 1 + (PyData.weight (dI p.2) + 1 + 0) := by simp only [pairD, PyData.weight, PyData.weightAll]
    rw [List.map_cons, List.length_cons, Nat.succ_mul]
    simp only [PyData.weightAll]
    omega
theorem sh_int {c : Nat} (h : c < 1000) : decide ((PyData.shown (dI c)).length ≤ 13) = true := by
  refine decide_eq_true (Nat.le_trans ?_ (by decide : 10 ≤ 13))
  have := iStr_len (n := (c : Int)) (by omega) (by omega)
  simpa only [PyData.shown] using this
theorem ish_all : ∀ ps : List (Nat × Nat), Small ps → PyData.intsShortAll 13 (ps.map pairD) = true
  | [], _ => rfl
  | p :: ps, h => by
    obtain ⟨h1, h2⟩ := h p List.mem_cons_self
    simp only [List.map_cons, PyData.intsShortAll, pairD, PyData.intsShort, sh_int h1, sh_int h2, ish_all ps h.tl, Bool.and_true]
theorem rep_ok {ps : List (Nat × Nat)} (h : Small ps) (hl : ps.length ≤ 100) : (repD ps).showable = true ∧ (repD ps).hasDict = false ∧ (repD ps).depth ≤ 60 ∧ (repD ps).shown.length ≤ sizeLine := by
  have d0 := dep_all ps
  have dep : (repD ps).depth ≤ 60 := by simp only [repD, dueD, PyData.depth, PyData.depthAll]; omega
  refine ⟨?_, ?_, dep, ?_⟩
  · simp only [repD, dueD, PyData.showable, PyData.showableAll, show_all ps h, Bool.and_true]
  · simp only [repD, dueD, PyData.hasDict, PyData.hasDictAll, dict_all ps, Bool.or_false]
  · refine Nat.le_trans (shown_le13 ?_ ?_) (by decide)
    · unfold PyData.layable0
      have w1 := wt_all ps h
      have w2 : ps.length * 2003 ≤ 100 * 2003 := Nat.mul_le_mul_right _ hl
      have w3 : (repD ps).weight ≤ 2 ^ 20 := by
        have : (2 : Nat) ^ 20 = 1048576 := by decide
        simp only [repD, dueD, PyData.weight, PyData.weightAll]
        omega
      rw [decide_eq_true w3, decide_eq_true (Nat.le_trans dep (by decide : 60 ≤ 64))]
      simp only [repD, dueD, PyData.canLay0, PyData.canLayAll0, lay_all ps, Bool.and_true]
    · simp only [repD, dueD, PyData.intsShort, PyData.intsShortAll, ish_all ps h, Bool.and_true]
/-! ### defs below which nothing is shown -/
structure Cg (P : Program) (w : World) (K : PySem.W.Frag) (mg : Str → Option Value) (base : Heap) (x : Str) (k : Nat) (ps : List Str) (sp : Sp) : Prop where
  ex : ∃ f fd, FnG P w K mg base k f fd ps sp ∧ mg x = some (.ref f) ∧ PySem.W.keepIn K (.ref f) = true ∧ Binds K fd ps []
abbrev BodyG (P : Program) (w : World) (K : PySem.W.Frag) (mg : Str → Option Value) (base : Heap) (d : He.DefD) (N : List Str) (f : Addr) (k : Nat) (sp : Sp) : Prop :=
  ∀ (cdv : Value) (A : Around) (outer : List Env) (s : Shared) (H : Hp) (vs : List V) (Q : VK), Room k (A.deeper (envOfC d.qual d.scope s.heap.objs.size f cdv)) → (A.deeper (envOfC d.qual d.scope s.heap.objs.size f cdv)).guards = some [] → sp vs H Q E0 →
      ∃ t, PSs (cxOf CX0 P w K mg base N d.qual d.scope f cdv A outer s H E0).nox d.body t ∧ t { nx := fun _ H' => Q .non H', rt := Q } (start N vs) H
section
variable {P : Program} {w : World} {K : PySem.W.Frag} {mg : Str → Option Value} {base : Heap}
theorem cg_of (T : Tx K mg) (d : He.DefD) (hd : d ∈ fn) {x : Str} (hat : d.at_ = (x, none)) (hg : He.Fa.glo x ∈ fa) {N ps : List Str} (S : FnScope N ps d.scope) (bA : BindA d ps) {k : Nat} {sp : Sp} (len : ∀ vs H Q E, sp vs H Q E → vs.length = ps.length)
    (h : ∀ f, BodyG P w K mg base d N f k sp) : Cg P w K mg base x (k + 1) ps sp := by
  have F := T.F d hd
  have e : He.fAd K d.at_ = He.ga K x := by rw [hat]; rfl
  refine ⟨_, _, fnG_of F S len fun cdv A outer s H vs Q hr hg hs => ?_, by rw [e]; exact T.glo x hg, F.kp, F.bindsN bA⟩
  obtain ⟨t, a, b⟩ := h _ cdv A outer s H vs Q hr hg hs
  exact ⟨t, a.nox, b⟩
end
section
variable {X : Cx} {x : Str} {k : Nat} {ps : List Str} {sp : Sp} {p pos : Pos} {e : Expr} {es : List Expr} {t : TA} {C : Addr}
theorem pe_cg (c : Cg X.prog X.w X.K X.mg X.base x k ps sp) (hr : Room k X.A) (hgd : X.A.guards = some []) (hg : Gl X x) (ha : PA X (e :: es) t) (hdb : (x == ("__debug__" : Str)) = false := by decide)
    (he : starEach (e :: es) X.env = (false, eval e X.env) :: starEach es X.env := by rfl) (hpl : (backTo pos (starEach es X.env)).any (·.1) = false := by rfl) : PE X (.Call (.Name x p) (e :: es) [] pos) (tCall sp [] E0 t) := by
  obtain ⟨f, fd, F, g, kp, b⟩ := c.ex
  exact pe_callG F hr hgd hg g kp b ha hdb he hpl
theorem crStrO (c : Cm X.prog X.w X.K X.mg X.base C "__str__" k ["self"] sp) (hr : Room (k + 2) X.A) : CallR X (.type "str") (rStrO C sp) := by
  obtain ⟨f, fd, F, M, b⟩ := c.ex
  exact call_strO F M hr b pass0
end
def spVat (K : PySem.W.Frag) : Sp := fun vs H Q _ => ∃ (sc : Addr) (ns : List Int) (turn : Nat), vs = [.ref sc, nV turn] ∧ SqL K H sc (ns.map V.int) ∧ ns.length ≤ 1000 ∧ ∀ va H', H va = none → Same H H' → VatAt H' va → Q (.ref va) H'
theorem cut_ints (ns : List Int) (lo hi : Option Int) : ∃ ms : List Int, cutV (ns.map V.int) lo hi = ms.map V.int ∧ ms.length ≤ ns.length := by
  unfold cutV
  refine ⟨List.take _ (List.drop _ ns), by rw [List.map_take, List.map_drop], ?_⟩
  rw [List.length_take, List.length_drop]
  omega
section
variable {P : Program} {w : World} {K : PySem.W.Frag} {mg : Str → Option Value} {base : Heap} (T : Tx K mg)
include T
theorem C_law_vat : Cb P w K mg base "_law_vat" 1 ["_law_script", "_law_turn"] (spVat K) := by
  refine cb_of T d_law_vat n_law_vat rfl m_glo_law_vat sc_law_vat ba_law_vat ?_ ?_
  · rintro vs H Q E ⟨sc, ns, turn, rfl, _⟩; rfl
  · rintro f cdv A outer s H vs Q E hr ⟨sc, ns, turn, rfl, hS, hn, q⟩
    refine ⟨_, (pss_cons (ps_set (i := 2) sc_law_vat.nd rfl (Or.inl rfl) (pe_ifExp (pt_cmpR op_lt (pv 1) (pe_callB (callLen (K := K) rfl) (by rfl) (T.free "len" m_free_len) bt_len (pa_cons (pv 0) pa_nil)) (nomark _)) (pe_ix (ixL (K := K) rfl) (pv 0) (pv 1) (fun _ _ => rfl)) (pe_op op_add (pe_op op_mul pe_int (pv 1)) pe_int)))
    (pss_cons (ps_set (i := 3) sc_law_vat.nd rfl (Or.inl rfl) (pe_op op_add pe_int (pe_op op_mul pe_int (pv 1))))
    (pss_cons (ps_for PassesOwn.never rfl (piL (K := K) rfl (pe_op op_cat (pe_slice (slL (K := K) rfl) (pv 0) po_none (po_some pe_int)) (pe_lst (pa_cons (pv 2) pa_nil)))) (pg_name (i := 4) sc_law_vat.nd rfl (Or.inl rfl))
      (pss_one (ps_set (i := 3) sc_law_vat.nd rfl (Or.inl rfl) (pe_op op_mod (pe_callTy call_int1 (by rfl) (T.free "int" m_free_int) bt_int (pa_cons (pe_op op_add (pe_op op_add (pe_op op_mul (pv 3) pe_int) (pe_callTy call_int1 (by rfl) (T.free "int" m_free_int) bt_int (pa_cons (pv 4) pa_nil))) pe_int) pa_nil)) pe_int))))
    (pss_one (ps_ret (pe_lst (pa_cons (pe_ifExp (PW.pt (pw_or (pt_cmpR op_lt (pv 2) pe_int (nomark _)) (pw_or1 (pt_cmpR op_ge (pv 2) (pe_op op_pow pe_int pe_int) (nomark _))))) (pe_callB call_abs (by rfl) (T.free "abs" m_free_abs) bt_abs (pa_cons (pv 2) pa_nil)) pe_int) (pa_cons (pv 3) (pa_cons pe_int pa_nil))))))))), ?_⟩
    have ln : (ns.map V.int).length = ns.length := List.length_map _
    refine ⟨_, rfl, _, rfl, sc, _, rfl, .inl hS, _, _, rfl, rfl, _, rfl, ?_⟩
    rw [ln]
    refine ite2 (fun c => ?a) (fun c => ?b)
    case' a =>
      have hlt : turn < ns.length := by have := of_decide_eq_true c; omega
      refine ⟨_, rfl, _, rfl, sc, _, _, .int ns[turn], rfl, rfl, hS, atI_nat (by rw [List.getElem?_map, List.getElem?_eq_getElem hlt]; rfl), ?_⟩
      generalize ns[turn] = own
    case' b =>
      refine ⟨_, rfl, _, _, rfl, rfl, .inl (by constructor <;> decide), _, _, rfl, rfl, ?_⟩
      dsimp only
      generalize (29 * ((turn : Nat) : Int) + 3) = own
    all_goals
      refine ⟨_, rfl, _, _, rfl, rfl, .inl (by constructor <;> decide), _, _, rfl, rfl, ?_⟩
      refine ⟨_, rfl, _, rfl, sc, _, rfl, hS, fun p hp => ?_⟩
      obtain ⟨ms, ems, hms⟩ := cut_ints ns none (some 6)
      rw [ems]
      have s1 := same_new (o := .lst (ms.map V.int)) hp
      have h1 := upd_same (H := H) (a := p) (o := .lst (ms.map V.int))
      generalize upd H p (.lst (ms.map V.int)) = H1 at s1 h1 ⊢
      refine ⟨_, rfl, (by show 1 ≤ sizeLine; decide), fun p2 hp2 => ?_⟩
      have s2 := same_new (o := .lst [V.int own]) hp2
      have h2 := upd_same (H := H1) (a := p2) (o := .lst [V.int own])
      generalize upd H1 p2 (.lst [V.int own]) = H2 at s2 h2 ⊢
      refine ⟨p, p2, _, _, rfl, rfl, s2 _ _ h1, h2, ?_, fun l hl => ?_⟩
      · rw [List.length_map]
        have : ([V.int own] : List V).length = 1 := rfl
        rw [sizeLine_eq]
        omega
      have s3 := same_new (o := .lst (ms.map V.int ++ [V.int own])) hl
      have h3 : (upd H2 l (.lst (ms.map V.int ++ [V.int own]))) l = some (.lst ((ms ++ [own]).map V.int)) := by rw [upd_same, List.map_append]; rfl
      generalize upd H2 l (.lst (ms.map V.int ++ [V.int own])) = H3 at s3 h3 ⊢
      have s03 := s1.trans (s2.trans s3)
      refine ⟨l, rfl, ⟨_, .inl (.inl h3)⟩, ?_⟩
      have lz : ((ms ++ [own]).map V.int).length = ms.length + 1 := by simp
      refine for_it (walk_list (K := K) (a := l) (xs := (ms ++ [own]).map V.int)) (fun i σ Hc => Hc = H3 ∧ ∃ m y, σ = [some (.ref sc), some (nV turn), some (.int own), some (.int m), y] ∧ (1 ≤ i → 0 ≤ m ∧ m < 2147483423)) ⟨rfl, _, none, rfl, fun z => by omega⟩ (fun i σ Hc _ ⟨e, _⟩ => by rw [e]; exact .inl (.inl h3)) ?_ ?_
      · rintro i xx σ Hc H' hi ⟨eh, m, y, rfl, hm⟩ ⟨rfl, hx⟩
        obtain ⟨x1, hx1, rfl⟩ := map_get hx
        refine ⟨_, rfl, _, _, rfl, rfl, .inr (by constructor <;> decide), ?_⟩
        refine ⟨_, rfl, .inl ⟨_, rfl, _, _, rfl, rfl, _, _, rfl, rfl, .inl ⟨_, rfl, _, _, rfl, rfl, (by show (0 : Int) < 2147483423; decide), ?_⟩⟩⟩
        exact ⟨eh, _, _, rfl, fun _ => ⟨Int.emod_nonneg _ (by decide), Int.emod_lt_of_pos _ (by decide)⟩⟩
      · rintro σ Hc ⟨eh, m, y, rfl, hm⟩
        obtain rfl : H3 = Hc := eh.symm
        obtain ⟨m0, m1⟩ := hm (by rw [lz]; omega)
        have fin : ∀ v : Int, (3 ≤ sizeLine ∧ ∀ va, H3 va = none → Q (.ref va) (upd H3 va (.lst [.int v, .int m, .int 0]))) := fun v => ⟨by decide, fun va hva => q va _ (s03.free hva) (s03.trans (same_new hva)) ⟨_, _, _, upd_same, m0, m1⟩⟩
        refine ⟨_, rfl, _, _, rfl, rfl, _, rfl, ?_⟩
        refine ite2 (fun c => iteT ⟨_, rfl, _, rfl, _, rfl, fin _⟩) (fun c => ?_)
        refine ⟨_, rfl, _, _, rfl, rfl, ⟨by decide, by decide, by decide⟩, _, _, rfl, rfl, _, rfl, ?_⟩
        refine ite2 (fun c => ⟨_, rfl, _, rfl, _, rfl, fin _⟩) (fun c => ⟨_, rfl, fin _⟩)
end
end Kg

set_option maxHeartbeats 4000000
/-! The walk of the law: its main part. -/
namespace Kg
open PySem PySem.Spec PyProof.Rows L2 Mi StX
def spRight : Sp := fun vs H Q _ => ∃ va : Addr, vs = [.ref va] ∧ VatAt H va ∧ ∀ H', Kp va H H' → Q (.bl true) H'
/-- between two turns -/
def RInv (H : Hp) (va : Addr) (i : Nat) (σ : L2.St) (Hc : Hp) : Prop := ∃ x1 x2 x3 x4 x5 x6 x7 x8, σ = [some (.ref va), x1, x2, x3, x4, x5, x6, x7, x8] ∧ Kp va H Hc ∧ VatAt Hc va
/-- among the pairs -/
structure DInv (K : PySem.W.Frag) (H4 Hc : Hp) (lf lp : Addr) (ps : List Addr) (ws : List Int) (ss : List (List Nat)) (qs : List (Nat × Nat)) : Prop where
  lin : LInv K H4 Hc lf qs
  prs : Hc lp = some (.lst (ps.map V.ref))
  all : AllAt (PairAt K Hc) ps (Kg.prs ss ws.length)
  ne : lf ≠ lp
def PInv (K : PySem.W.Frag) (H4 : Hp) (va hw hs mine lf lp : Addr) (n : Nat) (ps : List Addr) (ws : List Int) (ss : List (List Nat)) (x1 : Option V) (i : Nat) (σ : L2.St) (Hc : Hp) : Prop :=
  ∃ y z, σ = [some (.ref va), x1, some (nV n), some (.ref hw), some (.ref hs), some (.ref mine), some (.ref lf), y, z] ∧ DInv K H4 Hc lf lp ps ws ss (((prs ss ws.length).take i).filter (good ws ss))
theorem due_small {ws : List Int} {ss : List (List Nat)} (v : Val ws ss) : Small (due ws ss) ∧ (due ws ss).length ≤ 100 := by
  have n5 := v.n5
  have m5 := v.m5
  refine ⟨fun p hp => ?_, ?_⟩
  · have := prs_mem (List.mem_filter.mp hp).1
    omega
  · have h1 : (due ws ss).length ≤ (prs ss ws.length).length := List.length_filter_le _ _
    have h2 := prs_len ss ws.length
    have h3 : ws.length * ss.length ≤ 5 * 5 := Nat.mul_le_mul n5 m5
    omega
section
variable {P : Program} {w : World} {K : PySem.W.Frag} {mg : Str → Option Value} {base : Heap} (T : Tx K mg)
include T
theorem C_law_right : Cg P w K mg base "_law_right" 13 ["_law_vat_here"] spRight := by
  refine cg_of T d_law_right n_law_right rfl m_glo_law_right sc_law_right ba_law_right ?_ ?_
  · rintro vs H Q E ⟨va, rfl, _⟩; rfl
  · rintro f cdv A outer s H vs Q hr hgd ⟨va, rfl, hv, q⟩
    refine ⟨_, (pss_cons (ps_for PassesOwn.never rfl (pi_range1 (by rfl) (T.free "range" m_free_range) (pa_cons pe_int pa_nil)) (pg_name (i := 1) sc_law_right.nd rfl (Or.inl rfl))
      (pss_cons (ps_set (i := 2) sc_law_right.nd rfl (Or.inl rfl) (pe_op op_add pe_int (pe_cb (C_law_tap T) (hr.mono (by decide)) (by rfl) (pa_cons (pv 0) (pa_cons pe_int pa_nil)))))
      (pss_cons (ps_par (i := 3) (j := 4) (by rfl) sc_law_right.nd rfl rfl (by decide) rfl rfl (pa_cons (pe_cb (C_law_weights T) (hr.mono (by decide)) (by rfl) (pa_cons (pv 0) (pa_cons (pv 2) pa_nil))) (pa_cons (pe_cb (C_law_sayings T) (hr.mono (by decide)) (by rfl) (pa_cons (pv 0) (pa_cons (pv 2) (pa_cons pe_int pa_nil)))) pa_nil)) (by rfl))
      (pss_cons (ps_par (i := 5) (j := 6) (by rfl) sc_law_right.nd rfl rfl (by decide) rfl rfl (pa_cons (pe_mk (M_Teller T) (hr.mono (by decide)) (by rfl) (pa_cons (pv 3) (pa_cons (pv 4) pa_nil))) (pa_cons (pe_lst pa_nil) pa_nil)) (by rfl))
      (pss_cons (ps_for PassesOwn.never rfl (piL (K := K) rfl (pe_cb (C_law_pairs T) (hr.mono (by decide)) (by rfl) (pa_cons (pv 2) (pa_cons (pv 4) pa_nil)))) (pg_name (i := 7) sc_law_right.nd rfl (Or.inl rfl))
        (pss_one (ps_for PassesOwn.never rfl (piL (K := K) rfl (pe_cb (C_law_less T) (hr.mono (by decide)) (by rfl) (pa_cons (pv 3) (pa_cons (pv 4) (pa_cons (pe_lst (pa_cons (pv 7) pa_nil)) pa_nil))))) (pg_name (i := 8) sc_law_right.nd rfl (Or.inl rfl))
          (pss_one (ps_if (pt_val (pe_cb (C_law_below T) (hr.mono (by decide)) (by rfl) (pa_cons (pe_cb (C_sure_chance T) (hr.mono (by decide)) (by rfl) (pa_cons (pv 5) pa_nil)) (pa_cons (pe_cb (C_sure_chance T) (hr.mono (by decide)) (by rfl) (pa_cons (pv 8) pa_nil)) pa_nil))))
            (pss_one (ps_expr (pe_bm PySem.F.plainAttrs_list PySem.F.slot_list_append PySem.F.type_list_append mt_append (pv 6) (pa_cons (pv 7) pa_nil))))
            pss_nil)))))
      (pss_one (ps_if (PW.pt (pw_or (pt_cmpR op_ne (pe_callB (call_reprD hgd hr.units) (by rfl) (T.free "repr" m_free_repr) bt_repr (pa_cons (pe_lst (pa_cons (pe_cb (C_gains T) (hr.mono (by decide)) (by rfl) (pa_cons (pv 5) pa_nil)) (pa_cons (pe_ckw (C_gainsK T) (hr.mono (by decide)) (by rfl) (pk_cons (pv 5) pk_nil)) pa_nil))) pa_nil)) (pe_callB (call_reprD hgd hr.units) (by rfl) (T.free "repr" m_free_repr) bt_repr (pa_cons (pe_op op_rep (pe_lst (pa_cons (pe_callTy (callTup (K := K) rfl) (by rfl) (T.free "tuple" m_free_tuple) bt_tuple (pa_cons (pv 6) pa_nil)) pa_nil)) pe_int) pa_nil)) (nomark _)) (pw_or1 (pt_cmpR op_ne (pe_callTy (crStrO (C_tstr T) (hr.mono (by decide))) (by rfl) (T.free "str" m_free_str) bt_str (pa_cons (pv 5) pa_nil)) (pe_callTy (crStrO (C_tstr T) (hr.mono (by decide))) (by rfl) (T.free "str" m_free_str) bt_str (pa_cons (pe_mk (M_Teller T) (hr.mono (by decide)) (by rfl) (pa_cons (pv 3) (pa_cons (pv 4) pa_nil))) pa_nil)) (nomark _)))))
        (pss_one (ps_ret pe_bl))
        pss_nil)))))))
    (pss_one (ps_ret pe_bl))), ?_⟩
    refine ⟨_, rfl, by decide, by decide, ?_⟩
    refine for_range (lo := 0) (n := (2 : Int).toNat) (RInv H va) ⟨none, none, none, none, none, none, none, none, rfl, Kp.of (Same.refl _), hv⟩ ?_ ?_
    · rintro i σ Hc hi ⟨x1, x2, x3, x4, x5, x6, x7, x8, rfl, k0, hv0⟩
      -- many
      refine ⟨_, rfl, va, 4, rfl, hv0, by decide, by decide, fun d H1 d0 d1 k1 hv1 => ?_⟩
      obtain ⟨dn, rfl⟩ := Int.eq_ofNat_of_zero_le d0
      refine ⟨_, _, rfl, rfl, ?_⟩
      have en : (fun i j => V.int (i + j)) (2 : Int) (dn : Int) = nV (2 + dn) := by
        show V.int (2 + (dn : Int)) = V.int ((2 + dn : Nat) : Int)
        rw [Int.natCast_add]; rfl
      rw [en]
      have hn5 : 2 + dn ≤ 5 := by omega
      have hn2 : 2 ≤ 2 + dn := by omega
      generalize 2 + dn = n at hn5 hn2 ⊢
      have k01 := k0.trans k1
      -- loads, rows
      refine ⟨_, rfl, _, rfl, va, n, rfl, hv1, hn5, fun hw H2 ws k2 hv2 hp hwl hwb => ?_⟩
      have k02 := k01.trans k2
      refine ⟨_, rfl, _, rfl, va, n, rfl, hv2, hn2, hn5, fun hs H3 ss k3 hv3 hS m1 m5 hok hcov => ?_⟩
      have k03 := k02.trans k3
      have hW3 : SqT K H3 hw (ws.map V.int) := by
        obtain ⟨ys, hy⟩ := hv2.lst
        exact sqT_kp k3 hy (.inl (.inl hp))
      have v : Val ws ss := ⟨by omega, by omega, hwb, m1, m5, fun cs hc => by rw [hwl]; exact hok cs hc, fun k hk => hcov k (by omega)⟩
      refine ⟨_, _, rfl, ?_⟩
      -- mine, due
      refine ⟨_, rfl, _, rfl, fun x dx hx hdx hne => ?_⟩
      have s4 := same_newt (o := .ins (He.ga K "Teller") dx []) (same_new (o := .own x) hdx) (by rw [upd_ne (Ne.symm hne)]; exact hx)
      refine ⟨x, dx, hw, hs, ws, ss, rfl, upd_same, sqT_same s4 hW3, hS.same s4, v, fun H4 k4 ht4 => ⟨rfl, ?_⟩⟩
      have s34 : Same H3 H4 := fun b u e => k4 _ _ (s4 _ _ e) (ne_of_none e hx)
      have k04 := k03.sameL s34
      have hv4 := hv3.same s34
      have hW4 := sqT_same s34 hW3
      have hS4 := hS.same s34
      refine ⟨(by show 0 ≤ sizeLine; decide), fun lf hlf => ⟨_, _, rfl, ?_⟩⟩
      have s5 := same_new (o := .lst []) hlf
      have l5 := upd_same (H := H4) (a := lf) (o := .lst [])
      generalize upd H4 lf (.lst []) = H5 at s5 l5 ⊢
      -- the pairs
      refine ⟨_, rfl, _, rfl, hs, n, ss, rfl, hS4.same s5, hn5, m5, fun lp H6 ps hn6 s6 l6 hP => ?_⟩
      have s46 := s5.trans s6
      refine ⟨lp, rfl, ⟨_, .inl (.inl l6)⟩, ?_⟩
      have hlp : (ps.map V.ref).length = (prs ss ws.length).length := by rw [List.length_map, hP.len, hwl]
      have hp25 : (prs ss ws.length).length ≤ 25 := Nat.le_trans (prs_len ss _) (Nat.mul_le_mul v.n5 m5)
      have ne : lf ≠ lp := ne_of_none l5 hn6
      refine for_it (walk_list (K := K) (a := lp) (xs := ps.map V.ref)) (PInv K H4 va hw hs x lf lp n ps ws ss (some (.int (0 + (i : Int))))) ⟨x7, x8, rfl, ⟨hlf, s46, [], s6 _ _ l5, AllAt.nil⟩, l6, by rw [hwl]; exact hP, ne⟩ (fun i σ Hc _ ⟨_, _, _, z⟩ => .inl (.inl z.prs)) ?_ ?_
      · rintro j xx σ Hc H' hj ⟨y, z, rfl, ⟨⟨_, sc, as, lc, hA⟩, hpr, hall, _⟩⟩ ⟨rfl, hx⟩
        obtain ⟨pa, hpa, rfl⟩ := map_get hx
        rw [hlp] at hj
        have hps : (prs ss ws.length)[j]? = some (prs ss ws.length)[j] := List.getElem?_eq_getElem hj
        have hpp : PairAt K H' pa (prs ss ws.length)[j] := hall.at_ j pa _ hpa hps
        generalize (prs ss ws.length)[j] = pq at hps hpp
        have e := pfilt_snoc (good ws ss) (prs ss ws.length) hps
        refine ⟨_, rfl, _, rfl, _, rfl, (by show 1 ≤ sizeLine; decide), fun pl hpl => ?_⟩
        have s7 := same_new (o := .lst [V.ref pa]) hpl
        have h7 := upd_same (H := H') (a := pl) (o := .lst [V.ref pa])
        generalize upd H' pl (.lst [V.ref pa]) = H7 at s7 h7 ⊢
        have s47 := sc.trans s7
        refine ⟨hw, hs, pl, pa, ws, ss, pq, rfl, sqT_same s47 hW4, hS4.same s47, v, h7, sqT_same s7 hpp, fun no l H8 hl s8 h8 => ?_, fun ok l t H8 hl s8 h8 ht8 => ?_⟩
        · have s78 := s7.trans s8
          refine ⟨l, rfl, ⟨_, .inl (.inl h8)⟩, ?_⟩
          refine for_it (walk_list (K := K) (a := l) (xs := ([] : List V))) (fun _ σ Hc => PInv K H4 va hw hs x lf lp n ps ws ss (some (.int (0 + (i : Int)))) (j + 1) σ Hc ∧ Hc l = some (.lst [])) ⟨⟨_, _, rfl, ⟨⟨hlf, sc.trans s78, as, s78 _ _ lc, ?_⟩, s78 _ _ hpr, pair_same s78 hall, ne⟩⟩, h8⟩ (fun i σ Hc _ z => .inl (.inl z.2)) (fun i x σ H H' hi => absurd hi (by simp)) (fun σ Hc z => z.1)
          rw [e, if_neg (by unfold good; rw [no]; simp), List.append_nil]
          exact pair_same s78 hA
        · have s78 := s7.trans s8
          refine ⟨l, rfl, ⟨_, .inl (.inl h8)⟩, ?_⟩
          have nl : lf ≠ l := ne_of_none (s7 _ _ lc) hl
          refine for_it (walk_list (K := K) (a := l) (xs := [V.ref t])) (fun m σ Hc => ∃ z, σ = [some (.ref va), some (.int (0 + (i : Int))), some (nV n), some (.ref hw), some (.ref hs), some (.ref x), some (.ref lf), some (.ref pa), z] ∧ DInv K H4 Hc lf lp ps ws ss (((prs ss ws.length).take (j + m)).filter (good ws ss)) ∧ Hc l = some (.lst [V.ref t]) ∧ TelAt K Hc t ws (lessS ss pq) ∧ PairAt K Hc pa pq)
            ⟨_, rfl, ⟨⟨hlf, sc.trans s78, as, s78 _ _ lc, pair_same s78 hA⟩, s78 _ _ hpr, pair_same s78 hall, ne⟩, h8, ht8, sqT_same s78 hpp⟩ (fun i σ Hc _ ⟨_, _, _, z, _⟩ => .inl (.inl z)) ?_ ?_
          · rintro m xx σ Hc Hd hm ⟨z2, rfl, ⟨⟨_, sd, bs, ld, hB⟩, hpr2, hall2, _⟩, hl2, ht2, hpp2⟩ ⟨rfl, hx2⟩
            have m0 : m = 0 := by
              have : ([V.ref t] : List V).length = 1 := rfl
              omega
            subst m0
            obtain rfl : V.ref t = xx := by simpa using hx2
            refine ⟨_, rfl, x, ws, ss, rfl, ht4.same sd, v, fun a Ha sa fa => ?_⟩
            refine ⟨_, rfl, t, ws, lessS ss pq, rfl, ht2.same sa, v.less ok, fun b Hb sb fb => ?_⟩
            have sab := sa.trans sb
            have lb := sab _ _ ld
            refine ⟨a, b, _, _, rfl, fa.same sb, fb, sz_sure v, sz_sure (v.less ok), _, rfl, ?_⟩
            refine ite2 (fun c => ?_) (fun c => ?_)
            · refine ⟨_, rfl, .inl ⟨rfl, _, .inl (.inl lb)⟩, _, rfl, lf, _, _, rfl, rfl, lb, ?_, ?_⟩
              · rw [List.length_map, hB.len]
                exact Nat.lt_of_le_of_lt (Nat.le_trans (List.length_filter_le _ _) (by rw [List.length_take]; exact Nat.min_le_right _ _)) (small1000 (by omega))
              have kp : Kp lf Hb (upd Hb lf (.lst (bs.map V.ref ++ [V.ref pa]))) := kp_upd
              refine ⟨_, rfl, ⟨⟨hlf, fun b' u z => ?_, bs ++ [pa], by rw [upd_same, List.map_append]; rfl, ?_⟩, ?_, pair_kp kp lb (pair_same sab hall2), ne⟩, ?_, telAt_kp kp lb (ht2.same sab), sqT_kp kp lb (sqT_same sab hpp2)⟩
              · rw [upd_ne (ne_of_none z hlf)]
                exact sab _ _ (sd _ _ z)
              · rw [e, if_pos (by unfold good; rw [ok, c]; rfl)]
                exact AllAt.snoc (pair_kp kp lb (pair_same sab hB)) (sqT_kp kp lb (sqT_same sab hpp2))
              · rw [upd_ne ne.symm]; exact sab _ _ hpr2
              · rw [upd_ne nl.symm]; exact sab _ _ hl2
            · refine ⟨_, rfl, ⟨⟨hlf, sd.trans sab, bs, lb, ?_⟩, sab _ _ hpr2, pair_same sab hall2, ne⟩, sab _ _ hl2, ht2.same sab, sqT_same sab hpp2⟩
              rw [e, if_neg (by unfold good; rw [ok]; simpa using c), List.append_nil]
              exact pair_same sab hB
          · rintro σ Hc ⟨z2, rfl, hD, _⟩
            exact ⟨_, _, rfl, hD⟩
      · rintro σ Hc ⟨y, z, rfl, ⟨⟨_, sc, as, lc, hA⟩, hpr, hall, _⟩⟩
        rw [hlp, List.take_length] at hA
        obtain ⟨small, l100⟩ := due_small v
        obtain ⟨r1, r2, r3, r4⟩ := rep_ok small l100
        refine ⟨_, rfl, x, ws, ss, rfl, ht4.same sc, v, fun p1 H7 as1 s7 hp1 hA1 => ?_⟩
        refine ⟨_, rfl, x, ws, ss, rfl, ht4.same (sc.trans s7), v, fun p2 H8 as2 s8 hp2 hA2 => ?_⟩
        refine ⟨(by show 2 ≤ sizeLine; decide), fun l1 hl1 => ?_⟩
        have s9 := same_new (o := .lst [V.ref p1, V.ref p2]) hl1
        have h9 := upd_same (H := H8) (a := l1) (o := .lst [V.ref p1, V.ref p2])
        generalize upd H8 l1 (.lst [V.ref p1, V.ref p2]) = H9 at s9 h9 ⊢
        refine ⟨l1, repD (due ws ss), rfl, .lst (.inl (.inl h9)) (.cons (dueDp (sqT_same (s8.trans s9) (.inl (.inl hp1))) (pair_same (s8.trans s9) hA1)) (.cons (dueDp (sqT_same s9 (.inl (.inl hp2))) (pair_same s9 hA2)) .nil)), r1, r2, r3, r4, ?_⟩
        have sc9 := s7.trans (s8.trans s9)
        refine ⟨_, rfl, lf, _, rfl, .inl ⟨.inl (.inl (sc9 _ _ lc)), fun pt hpt => ?_⟩⟩
        have s10 := same_new (o := .tup (as.map V.ref)) hpt
        have h10 := upd_same (H := H9) (a := pt) (o := .tup (as.map V.ref))
        generalize upd H9 pt (.tup (as.map V.ref)) = H10 at s10 h10 ⊢
        refine ⟨(by show 1 ≤ sizeLine; decide), fun l2 hl2 => ?_⟩
        have s11 := same_new (o := .lst [V.ref pt]) hl2
        have h11 := upd_same (H := H10) (a := l2) (o := .lst [V.ref pt])
        generalize upd H10 l2 (.lst [V.ref pt]) = H11 at s11 h11 ⊢
        refine ⟨l2, 2, _, rfl, rfl, h11, by decide, by decide, (by show 2 ≤ sizeLine; decide), fun l3 hl3 => ?_⟩
        have s12 := same_new (o := .lst (List.replicate (2 : Int).toNat [V.ref pt]).flatten) hl3
        have h12 : (upd H11 l3 (.lst (List.replicate (2 : Int).toNat [V.ref pt]).flatten)) l3 = some (.lst [V.ref pt, V.ref pt]) := upd_same
        generalize upd H11 l3 (.lst (List.replicate (2 : Int).toNat [V.ref pt]).flatten) = H12 at s12 h12 ⊢
        have st := s11.trans s12
        have hdd : Dp K H12 (.ref pt) (dueD (due ws ss)) := dueDp (sqT_same st (.inl (.inl h10))) (pair_same (sc9.trans (s10.trans st)) hA)
        refine ⟨l3, repD (due ws ss), rfl, .lst (.inl (.inl h12)) (.cons hdd (.cons hdd .nil)), r1, r2, r3, r4, rfl, false, by rw [decide_eq_true rfl]; rfl, iteF ?_⟩
        have sc12 := sc.trans (sc9.trans (s10.trans st))
        have ht12 := ht4.same sc12
        obtain ⟨dxx, hh, hhw, hhs, hins, _⟩ := ht12.ex
        refine ⟨_, rfl, x, dxx, _, rfl, hins, x, ws, ss, rfl, ht12, v, fun H13 s13 => ⟨_, rfl, ?_⟩⟩
        have sc13 := sc12.trans s13
        refine ⟨_, rfl, _, rfl, fun x' dx' hx' hdx' hne' => ?_⟩
        have s14 := same_newt (o := .ins (He.ga K "Teller") dx' []) (same_new (o := .own x') hdx') (by rw [upd_ne (Ne.symm hne')]; exact hx')
        refine ⟨x', dx', hw, hs, ws, ss, rfl, upd_same, sqT_same (sc13.trans s14) hW4, hS4.same (sc13.trans s14), v, fun H15 k15 ht15 => ⟨rfl, ?_⟩⟩
        have s15 : Same H13 H15 := fun b u e => k15 _ _ (s14 _ _ e) (ne_of_none e hx')
        obtain ⟨dxy, hh2, hhw2, hhs2, hins2, _⟩ := ht15.ex
        refine ⟨x', dxy, _, rfl, hins2, x', ws, ss, rfl, ht15, v, fun H16 s16 => ⟨_, rfl, rfl, false, by rw [decide_eq_true rfl]; rfl, iteF ?_⟩⟩
        have sc16 := sc13.trans (s15.trans s16)
        exact ⟨_, _, _, _, _, _, _, _, rfl, k04.sameL sc16, hv4.same sc16⟩
    · rintro σ Hc ⟨x1, x2, x3, x4, x5, x6, x7, x8, rfl, k0, hv0⟩
      exact q Hc k0
end
end Kg

set_option maxHeartbeats 4000000
/-! The walk of the law: the law. -/
namespace Kg
open PySem PySem.Spec PyProof.Rows L2 Mi StX
def spLaw (K : PySem.W.Frag) : Sp := fun vs H Q _ => ∃ (sc : Addr) (ns : List Int), vs = [.ref sc] ∧ SqL K H sc (ns.map V.int) ∧ ns.length ≤ 1000 ∧ ∀ H', Q (.bl true) H'
theorem all_rep (n : Nat) : (List.replicate n true).all id = true := all_true
section
variable {P : Program} {w : World} {K : PySem.W.Frag} {mg : Str → Option Value} {base : Heap} (T : Tx K mg)
include T
theorem C_law : Cg P w K mg base "law" 14 ["_law_script"] (spLaw K) := by
  refine cg_of T d_law n_law rfl m_glo_law sc_law ba_law ?_ ?_
  · rintro vs H Q E ⟨sc, ns, rfl, _⟩; rfl
  · rintro f cdv A outer s H vs Q hr hgd ⟨sc, ns, rfl, hS, hn, q⟩
    refine ⟨_, (pss_one (ps_ret (pe_callB (crAll (K := K) rfl rfl) (by rfl) (T.free "all" m_free_all) bt_all (pa_cons (pe_lc (own := [("_law_turn", 1)]) (by rfl) sc_law.nd (pi_range1 (by rfl) (T.free "range" m_free_range) (pa_cons (pe_callB (call_max2 rfl) (by rfl) (T.free "max" m_free_max) bt_max (pa_cons pe_int (pa_cons (pe_callB (call_min2 rfl) (by rfl) (T.free "min" m_free_min) bt_min (pa_cons (pe_callB (callLen (K := K) rfl) (by rfl) (T.free "len" m_free_len) bt_len (pa_cons (pv 0) pa_nil)) (pa_cons pe_int pa_nil))) pa_nil))) pa_nil)) (blkOk_by (own := [("_law_turn", 1)]) (N := N_law) (sc := defScope s_law) (by decide +kernel)) (fun _ _ _ _ _ => pg_name (i := 1) sc_law.nd rfl (Or.inl rfl)) (fun _ _ _ _ _ => pts_nil) (fun _ _ _ _ _ => (pe_cg (C_law_right T) (hr.mono (by decide)) hgd (by rfl) (pa_cons (pe_cb (C_law_vat T) (hr.mono (by decide)) (by rfl) (pa_cons (pv 0) (pa_cons (pv 1) pa_nil))) pa_nil)))) pa_nil)))), ?_⟩
    have ln : (ns.map V.int).length = ns.length := List.length_map _
    refine ⟨_, rfl, sc, _, rfl, .inl hS, _, _, rfl, _, _, rfl, _, rfl, ?_⟩
    rw [ln]
    have hcnt : ∃ m : Nat, m ≤ 1000 ∧ (if (if (5 : Int) < (ns.length : Nat) then (5 : Int) else (ns.length : Nat)) > 2 then (if (5 : Int) < (ns.length : Nat) then (5 : Int) else (ns.length : Nat)) else 2) = (m : Int) := by
      by_cases h5 : (5 : Int) < (ns.length : Nat)
      · rw [if_pos h5]; exact ⟨5, by decide, rfl⟩
      · rw [if_neg h5]
        by_cases h2 : ((ns.length : Nat) : Int) > 2
        · rw [if_pos h2]; exact ⟨ns.length, hn, rfl⟩
        · rw [if_neg h2]; exact ⟨2, by decide, rfl⟩
    obtain ⟨m, hm, em⟩ := hcnt
    rw [em]
    refine ⟨by omega, by omega, fun D hD => ?_⟩
    refine lc_run (walk_range (lo := 0) (n := (m : Int).toNat)) hD (fun i H acc => acc = (List.replicate i true).map V.bl) (fun _ _ => trivial) (fun _ _ _ _ _ _ _ h => h) (fun _ _ => rfl) (line_of (by omega)) ?_ ?_
    · rintro i x H1 H' acc k k0 hi s1 hacc hal rfl ⟨rfl, rfl⟩ hk _
      have zi : V.int (0 + (i : Int)) = nV i := by rw [Int.zero_add]
      refine ⟨rfl, _, rfl, _, rfl, sc, ns, i, by rw [← zi]; rfl, sqL_same s1 hS, hn, fun va H2 hva s2 hv => ?_⟩
      refine ⟨va, rfl, hv, fun H3 k3 => ?_⟩
      refine hk _ _ (fun b u e => ?_) snoc_rep
      exact k3 b u (s2 b u e) (ne_of_none e hva)
    · rintro H1 acc s1 hacc hal rfl
      refine ⟨D, _, rfl, .inl (.inl hacc), ?_⟩
      rw [all_rep]
      exact q H1
end
/-! ### the law called behind the top: nothing is being shown there -/
theorem callG {P : Program} {w : World} {K : PySem.W.Frag} {mg mb : Str → Option Value} {k : Nat} {fa a : Addr} {x p : Str} {sp : Sp} {s : Shared} {vs : List Value} {ns : List Int}
    (hK : K.In s.heap) (hm : s.heap.Ns mainGlobals mg) (hb : s.heap.Ns builtinsNs mb) (hbb : ∀ x : Str, x ≠ "__name__" → mb x = bootBuiltins x) (hlim : s.heap.NoLimit) (hg : s.gens = #[])
    (ha : s.heap.get? a = some { cls := .type "list", data := .seq vs.toArray }) (hi : IntsAre vs ns) (hl : ns.length ≤ sizeLine) (hr : Room k callerA)
    (F : ∀ base : Heap, Cg P w K mg base x k [p] sp) (hx : mg x = some (.ref fa))
    (hsp : ∀ H : Hp, SqL K H a (ns.map V.int) → sp [.ref a] H (fun v _ => v = .bl true) E0) :
    codeAny (model P w) callerA (.call (.ref fa) ⟨[.ref a], []⟩) (fun r s' => r = .ok (.ret (.bool true)) ∧ OldK s.heap s'.heap ∧ s'.os = s.os ∧ AllBare s'.gens) s := by
  have hlen : vs.length = ns.length := hi.length
  -- the script is told as frozen where the module does not own it
  obtain ⟨H, hH, hS⟩ : ∃ H : Hp, (∀ b u, H b = some u → b = a ∧ K.lookup a = none ∧ u = .frz { cls := .type "list", data := .seq vs.toArray } (.lst (ns.map V.int))) ∧ SqL K H a (ns.map V.int) := by
    cases h : K.lookup a with
    | none =>
      refine ⟨fun b => if b = a then some (.frz { cls := .type "list", data := .seq vs.toArray } (.lst (ns.map V.int))) else none, fun b u e => ?_, .inl (.inr ⟨_, if_pos rfl⟩)⟩
      by_cases c : b = a
      · have z := (if_pos c).symm.trans e
        exact ⟨c, rfl, (Option.some.inj z).symm⟩
      · have z := (if_neg c).symm.trans e
        cases z
    | some o =>
      have e := hK a o h
      rw [ha] at e
      obtain rfl := Option.some.inj e
      exact ⟨fun _ => none, fun b u e => (by cases e), .inr ⟨_, vs.toArray, _, h, rfl, rfl, rfl, by rw [List.size_toArray, hlen]; exact hl, by simpa using vals_ints hi⟩⟩
  have keep : ∀ {b : Addr} {o : Obj}, s.heap.get? b = some o → (b = a → K.lookup a ≠ none) → (hidT s.heap H).get? b = some o := fun {b o} e c => hidT_get e (by
    cases q : H b with
    | none => rfl
    | some u => obtain ⟨e1, e2, _⟩ := hH b u q; exact absurd e2 (c e1))
  have names : ∀ {b : Addr} {m : Str → Option Value}, s.heap.Ns b m → (hidT s.heap H).Ns b m := fun {b m} ⟨o, es, ep, e, d, r⟩ => ⟨o, es, ep, keep e (fun z => by
    subst z
    rw [ha] at e
    obtain rfl := Option.some.inj e
    cases d), d, r⟩
  have inB : K.In (hidT s.heap H) := fun b o e => keep (hK b o e) (fun z => by rw [← z, e]; simp)
  have M : Mod K mg (hidT s.heap H) := ⟨inB, names hm, ⟨mb, names hb, hbb⟩, let ⟨mc, h1, h2⟩ := hlim; ⟨mc, names h1, h2⟩⟩
  have hok : HOk P w H s.heap := fun b u e => by
    obtain ⟨rfl, _, rfl⟩ := hH b u e
    exact ⟨ha, by rw [List.length_map]; exact hl, vs, _, vals_ints hi, ha⟩
  have env : Env0 P w K mg (hidT s.heap H) callerA [] s H := ⟨rfl, M, fun b o e => of_hidT e, Nat.le_of_eq (hidT_size _ _), trivial, fun b z => (nomatch z), hok, .of_eq hg⟩
  obtain ⟨f, fd, go, hf, _, bd⟩ := (F (hidT s.heap H)).ex
  rw [hx] at hf
  obtain rfl : fa = f := by injection (Option.some.inj hf)
  refine codeAny_mono (go.run callerA [] s H ⟨[.ref a], []⟩ [.ref a] [.ref a] _ hr rfl env (bd s [.ref a] hK rfl) (.cons rfl .nil) (hsp H hS)) fun r s' h => ?_
  match r, h with
  | .error e, h => exact h.elim
  | .ok (.ret u), h =>
    obtain ⟨v, H', os, bare, un, ok', rv, q⟩ := h
    obtain rfl : v = .bl true := q
    obtain rfl : u = Value.bool true := rv
    refine ⟨rfl, OldK.of_keep fun b o e => ?_, os, bare⟩
    cases c : H b with
    | none => exact un.keep b o e c (fun z => (nomatch z)) (by simp)
    | some u =>
      obtain ⟨rfl, _, rfl⟩ := hH b u c
      have e2 := (ok' b _ (un.frzs b _ _ c)).1
      rw [ha] at e
      rw [← e]
      exact e2
end Kg

open PySem PySem.W PySem.Calls PyProof.Rows
set_option maxHeartbeats 0
/-! The law holds. -/
theorem PySem.Challenge.cw_tellerhabits_k47_whole_gains_holds : PySem.Challenge.rw_tellerhabits_k47_whole_gains.Holds := by
  w_on; o_law
  refine HandSHeadRun.head_any (r := Kg.R) (q := view Kg.R.prog [59]) (H := Kg.hookK) (ob := Kg.ob) (M := 20000) (loose := Kg.names) (d := HandSHeadRun.topDef Kg.R.prog 59) (kwd := []) Kg.ob_eq
    (by kernel_rfl) (fun s => by kernel_rfl) Kg.run (by kernel_rfl) (by kernel_rfl) (by kernel_rfl) (by rfl) (by first | assumption | decide +kernel) (by decide +kernel) ⟨rfl, rfl, rfl, rfl, rfl, by decide +kernel⟩ ?hw ?hc
  case hw => w_witness2
  case hc =>
    refine Att.attach_call (l := PySem.Challenge.rw_tellerhabits_k47_whole_gains) (n := 63) rfl (by kernel_rfl) fun w s₀ s₁ mg mb fa o pm cd doc a vs ns G Y ho hd hcd hmg hobj hints hlen hg => ?_
    obtain ⟨K, KX, c⟩ := Y
    obtain ⟨T⟩ := Kg.tx_of KX G.T.g c
    have hname : (HandSHeadRun.topDef Kg.R.prog 59).name = ("law" : PySem.Str) := by kernel_rfl
    rw [hname] at hmg
    exact Kg.callG KX G.T.g G.T.b G.T.builtins G.T.nolimit hg hobj hints (Nat.le_trans hlen (by decide)) ⟨rfl, by decide, by decide⟩ (fun base => Kg.C_law T) hmg fun H hS => ⟨a, ns, rfl, hS, Nat.le_trans hlen (by decide), fun _ => rfl⟩

