import PyProof.Rows.All
import Wide.All
import OpenK.AllK
import Wide.FinOn
import HandS.ForMost
import HandS.Wide
import HandS.Zip
import HandS.Rev
import HandS.RevRange
import HandS.IsInst
import HandS.TupAny
import HandS.TupMul
import HandS.Conv
import HandS.Flow
import HandS.EndBits
import KE.GoesNew
import HandS.TupLe
import HandS.Style
import HandS.Dict
import PyProof.Rows.ReprOcc
import PySem.Challenge.RW_trimrows_k01_rows
set_option Elab.async false
set_option linter.all false
set_option maxRecDepth 100000
set_option maxHeartbeats 4000000
/-! Mirrors of the law's helpers, in plain Lean. -/
namespace Mi
/-- lo, lo + 1, .. -/
def rgI (lo : Int) (n : Nat) : List Int := (List.range n).map fun (k : Nat) => lo + (k : Int)
theorem rgI_len {lo : Int} {n : Nat} : (rgI lo n).length = n := by unfold rgI; rw [List.length_map, List.length_range]
theorem rgI_get {lo : Int} {n i : Nat} {x : Int} (h : (rgI lo n)[i]? = some x) : x = lo + (i : Int) ∧ i < n := by
  unfold rgI at h
  rw [List.getElem?_map] at h
  by_cases hi : i < n
  · rw [List.getElem?_range hi] at h
    exact ⟨(Option.some.inj h).symm, hi⟩
  · rw [List.getElem?_eq_none (by rw [List.length_range]; omega)] at h
    cases h
/-- n - 1, .., 0 -/
def rgR (n : Nat) : List Int := (List.range n).map fun (k : Nat) => (n : Int) - 1 - (k : Int)
theorem rgR_len {n : Nat} : (rgR n).length = n := by unfold rgR; rw [List.length_map, List.length_range]
theorem rgR_get {n i : Nat} {x : Int} (h : (rgR n)[i]? = some x) : x = (n : Int) - 1 - (i : Int) ∧ i < n := by
  unfold rgR at h
  rw [List.getElem?_map] at h
  by_cases hi : i < n
  · rw [List.getElem?_range hi] at h
    exact ⟨(Option.some.inj h).symm, hi⟩
  · rw [List.getElem?_eq_none (by rw [List.length_range]; omega)] at h
    cases h
def enumI {α : Type} (xs : List α) : List (Int × α) := xs.zipIdx.map fun p => ((p.2 : Int), p.1)
theorem enumI_len {α : Type} {xs : List α} : (enumI xs).length = xs.length := by unfold enumI; rw [List.length_map, List.length_zipIdx]
theorem enumI_get {α : Type} {xs : List α} {i : Nat} {y : Int × α} (h : (enumI xs)[i]? = some y) : y.1 = (i : Int) ∧ xs[i]? = some y.2 := by
  unfold enumI at h
  rw [List.getElem?_map, List.getElem?_zipIdx] at h
  cases e : xs[i]? with
  | none => rw [e] at h; cases h
  | some x =>
    rw [e] at h
    have h' := Option.some.inj h
    rw [← h']
    exact ⟨by show ((0 + i : Nat) : Int) = _; omega, rfl⟩
def cell (ns : List Int) (k : Int) : Int := if k < (ns.length : Int) then ns.getD k.toNat 0 else 0
def mix (z k : Int) : Int := (z * z + 7 * z + k) % 2147483629
def mixed (ns : List Int) (k : Int) : Int := mix ((cell ns k + 7919 * k + 1) * 48271 % 2147483647) k
def drw (z k : Int) : Int := (z * z + 3 * z + k) % 2147483629
def drawn (n k : Int) : Int := drw ((n + 104729 * k + 17) * 69621 % 2147483647) k
theorem mixed_nn (ns : List Int) (k : Int) : 0 ≤ mixed ns k ∧ mixed ns k < 2147483629 := ⟨Int.emod_nonneg _ (by decide), Int.emod_lt_of_pos _ (by decide)⟩
theorem drawn_nn (n k : Int) : 0 ≤ drawn n k ∧ drawn n k < 2147483629 := ⟨Int.emod_nonneg _ (by decide), Int.emod_lt_of_pos _ (by decide)⟩
/-- the product of two rows -/
def dotI (a b : List Int) : Int := ((a.zip b).map fun p => p.1 * p.2).sum

/-! ### the table squared out -/
abbrev Tb := List (List Int)
def at2 (t : Tb) (i j : Nat) : Int := (t.getD i []).getD j 0
def elimB (last : Int) (a : Nat) (t : Tb) (b : Nat) : Tb := t.set b (((t.getD b []).zip (t.getD a [])).map fun p => (at2 t a a * p.1 - at2 t b a * p.2).fdiv last)
def elimA (n : Nat) (last : Int) (a : Nat) (t : Tb) (k : Nat) : Tb := (List.range k).foldl (fun t j => elimB last a t (a + 1 + j)) t
def volGo (n : Nat) : Nat → Nat → Tb → Int → Int
  | 0, _, _, last => last
  | f + 1, a, t, last => if at2 t a a = 0 then 0 else volGo n f (a + 1) (elimA n last a t (n - (a + 1))) (at2 t a a)
def gram (rows : Tb) : Tb := rows.map fun one => rows.map fun other => dotI one other
def vol (rows : Tb) : Int := volGo rows.length rows.length 0 (gram rows) 1
/-- n rows of n, each below 2 ^ e -/
structure Sq (n e : Nat) (t : Tb) : Prop where
  len : t.length = n
  wid : ∀ r ∈ t, r.length = n
  bd : ∀ r ∈ t, ∀ x ∈ r, x.natAbs < 2 ^ e
theorem Sq.row {n e i : Nat} {t : Tb} (h : Sq n e t) (hi : i < n) : t[i]? = some (t.getD i []) ∧ (t.getD i []).length = n ∧ ∀ x ∈ t.getD i [], x.natAbs < 2 ^ e := by
  have hl : i < t.length := by rw [h.len]; exact hi
  have e1 : t[i]? = some t[i] := List.getElem?_eq_getElem hl
  have e2 : t.getD i [] = t[i] := by rw [List.getD_eq_getElem?_getD, e1]; rfl
  rw [e2]
  exact ⟨e1, h.wid _ (List.getElem_mem hl), h.bd _ (List.getElem_mem hl)⟩
theorem Sq.at {n e i j : Nat} {t : Tb} (h : Sq n e t) (hi : i < n) (hj : j < n) : (t.getD i [])[j]? = some (at2 t i j) ∧ (at2 t i j).natAbs < 2 ^ e := by
  obtain ⟨_, h2, h3⟩ := h.row hi
  have hl : j < (t.getD i []).length := by rw [h2]; exact hj
  have e1 : (t.getD i [])[j]? = some (t.getD i [])[j] := List.getElem?_eq_getElem hl
  have e2 : at2 t i j = (t.getD i [])[j] := by unfold at2; rw [List.getD_eq_getElem?_getD, e1]; rfl
  rw [e2]
  exact ⟨e1, h3 _ (List.getElem_mem hl)⟩
theorem Sq.mono {n e e' : Nat} {t : Tb} (h : Sq n e t) (he : e ≤ e') : Sq n e' t := ⟨h.len, h.wid, fun r hr x hx => Nat.lt_of_lt_of_le (h.bd r hr x hx) (Nat.pow_le_pow_right (by decide) he)⟩
theorem fdiv_le (x d : Int) (hd : d ≠ 0) : (x.fdiv d).natAbs ≤ x.natAbs := by
  have key : ∀ (x d : Int), 0 < d → (x.fdiv d).natAbs ≤ x.natAbs := by
    intro x d hd
    have h1 := Int.mul_fdiv_add_fmod x d
    have h2 := Int.fmod_nonneg_of_pos x hd
    have h3 := Int.fmod_lt_of_pos x hd
    generalize x.fdiv d = q at *
    generalize x.fmod d = r at *
    by_cases hq : 0 ≤ q
    · have : q ≤ d * q := by
        have := Int.mul_le_mul_of_nonneg_right (show (1 : Int) ≤ d by omega) hq
        omega
      omega
    · have : d * (q + 1) ≤ q + 1 := by
        have := Int.mul_le_mul_of_nonpos_right (show (1 : Int) ≤ d by omega) (show q + 1 ≤ 0 by omega)
        omega
      have e : d * (q + 1) = d * q + d := by rw [Int.mul_add, Int.mul_one]
      omega
  by_cases h : 0 < d
  · exact key x d h
  · have e : x.fdiv d = (-x).fdiv (-d) := (Int.neg_fdiv_neg x d).symm
    rw [e]
    have := key (-x) (-d) (by omega)
    rw [Int.natAbs_neg] at this
    exact this
theorem pow2_mul {x y : Int} {e : Nat} (hx : x.natAbs < 2 ^ e) (hy : y.natAbs < 2 ^ e) : (x * y).natAbs < 2 ^ (2 * e) := by
  rw [Int.natAbs_mul, Nat.two_mul, Nat.pow_add]
  exact Nat.mul_lt_mul'' hx hy
theorem elim_bd {a b c d last : Int} {e : Nat} (ha : a.natAbs < 2 ^ e) (hb : b.natAbs < 2 ^ e) (hc : c.natAbs < 2 ^ e) (hd : d.natAbs < 2 ^ e) (hl : last ≠ 0) : ((a * b - c * d).fdiv last).natAbs < 2 ^ (2 * e + 1) := by
  refine Nat.lt_of_le_of_lt (fdiv_le _ _ hl) ?_
  have h1 := pow2_mul ha hb
  have h2 := pow2_mul hc hd
  have e1 : 2 ^ (2 * e + 1) = 2 ^ (2 * e) + 2 ^ (2 * e) := by rw [Nat.pow_succ]; omega
  omega
theorem Sq.elimB {n e a b : Nat} {t t0 : Tb} {last : Int} (h : Sq n (2 * e + 1) t) (h0 : Sq n e t0) (ha : a < n) (hb : b < n) (ea : t.getD a [] = t0.getD a []) (eb : t.getD b [] = t0.getD b []) (hl : last ≠ 0) : Sq n (2 * e + 1) (elimB last a t b) := by
  obtain ⟨_, la, ba⟩ := h0.row ha
  obtain ⟨_, lb, bb⟩ := h0.row hb
  have haa := (h0.at ha ha).2
  have hba := (h0.at hb ha).2
  refine ⟨by unfold Mi.elimB; rw [List.length_set]; exact h.len, fun r hr => ?_, fun r hr x hx => ?_⟩
  · unfold Mi.elimB at hr
    rcases List.mem_or_eq_of_mem_set hr with hr | hr
    · exact h.wid r hr
    · rw [hr, List.length_map, List.length_zip, ea, eb, la, lb, Nat.min_self]
  · unfold Mi.elimB at hr
    rcases List.mem_or_eq_of_mem_set hr with hr | hr
    · exact h.bd r hr x hx
    · rw [hr] at hx
      obtain ⟨p, hp, rfl⟩ := List.mem_map.mp hx
      have := List.of_mem_zip hp
      rw [ea, eb] at this
      have e1 : at2 t a a = at2 t0 a a := by unfold at2; rw [ea]
      have e2 : at2 t b a = at2 t0 b a := by unfold at2; rw [eb]
      rw [e1, e2]
      exact elim_bd haa (bb _ this.1) hba (ba _ this.2) hl
theorem elimB_other {a b c : Nat} {t : Tb} {last : Int} (h : c ≠ b) : (elimB last a t b).getD c [] = t.getD c [] := by
  unfold elimB
  rw [List.getD_eq_getElem?_getD, List.getElem?_set_ne (Ne.symm h), ← List.getD_eq_getElem?_getD]
theorem elimA_succ {n a k : Nat} {t : Tb} {last : Int} : elimA n last a t (k + 1) = elimB last a (elimA n last a t k) (a + 1 + k) := by
  unfold elimA
  rw [List.range_succ, List.foldl_append]
  rfl
/-- after k rows: the row a and those not yet reached are as they were -/
theorem elimA_ok {n e a : Nat} {t : Tb} {last : Int} (h : Sq n e t) (hl : last ≠ 0) (ha : a < n) : ∀ k, a + 1 + k ≤ n → Sq n (2 * e + 1) (elimA n last a t k) ∧ ∀ c, c ≤ a ∨ a + 1 + k ≤ c → (elimA n last a t k).getD c [] = t.getD c []
  | 0, _ => ⟨by unfold elimA; exact h.mono (by omega), fun c _ => rfl⟩
  | k + 1, hk => by
    obtain ⟨h1, h2⟩ := elimA_ok h hl ha k (by omega)
    rw [elimA_succ]
    refine ⟨h1.elimB h ha (by omega) (h2 a (.inl (Nat.le_refl _))) (h2 _ (.inr (Nat.le_refl _))) hl, fun c hc => ?_⟩
    rw [elimB_other (by omega), h2 c (by omega)]
/-- how many bits behind a turns -/
def eb (a : Nat) : Nat := 48 * 2 ^ a - 1
theorem eb_succ (a : Nat) : 2 * eb a + 1 = eb (a + 1) := by
  unfold eb
  have : 0 < 2 ^ a := Nat.pow_pos (by decide)
  rw [Nat.pow_succ]
  omega
theorem eb_le {a : Nat} (h : a ≤ 4) : eb a ≤ 767 := by
  unfold eb
  have : 2 ^ a ≤ 2 ^ 4 := Nat.pow_le_pow_right (by decide) h
  omega
/-- rows of one width, each number below 2 ^ 20 -/
structure Rw (rows : Tb) (w : Nat) : Prop where
  n4 : rows.length ≤ 4
  w5 : w ≤ 5
  wid : ∀ r ∈ rows, r.length = w
  bd : ∀ r ∈ rows, ∀ x ∈ r, x.natAbs < 2 ^ 20
theorem sum_bd (B : Nat) : ∀ xs : List Int, (∀ x ∈ xs, x.natAbs ≤ B) → xs.sum.natAbs ≤ xs.length * B
  | [], _ => by simp
  | x :: xs, h => by
    have ih := sum_bd B xs fun y hy => h y (List.mem_cons_of_mem _ hy)
    have hx := h x List.mem_cons_self
    rw [List.sum_cons, List.length_cons, Nat.succ_mul]
    omega
theorem dotI_bd {a b : List Int} {w : Nat} (ha : a.length = w) (hw : w ≤ 5) (h1 : ∀ x ∈ a, x.natAbs < 2 ^ 20) (h2 : ∀ x ∈ b, x.natAbs < 2 ^ 20) : (dotI a b).natAbs < 2 ^ 47 := by
  unfold dotI
  have h := sum_bd (2 ^ 40) ((a.zip b).map fun p => p.1 * p.2) (fun x hx => by
    obtain ⟨p, hp, rfl⟩ := List.mem_map.mp hx
    have hm := List.of_mem_zip hp
    have := pow2_mul (h1 _ hm.1) (h2 _ hm.2)
    omega)
  rw [List.length_map, List.length_zip] at h
  have : min a.length b.length ≤ 5 := by omega
  have h3 : min a.length b.length * 2 ^ 40 ≤ 5 * 2 ^ 40 := Nat.mul_le_mul_right _ this
  refine Nat.lt_of_le_of_lt (Nat.le_trans h h3) (by decide)
theorem gram_sq {rows : Tb} {w : Nat} (h : Rw rows w) : Sq rows.length (eb 0) (gram rows) := by
  refine ⟨by unfold gram; rw [List.length_map], fun r hr => ?_, fun r hr x hx => ?_⟩
  · unfold gram at hr
    obtain ⟨a, _, rfl⟩ := List.mem_map.mp hr
    rw [List.length_map]
  · unfold gram at hr
    obtain ⟨a, ha, rfl⟩ := List.mem_map.mp hr
    obtain ⟨b, hb, rfl⟩ := List.mem_map.mp hx
    exact dotI_bd (h.wid a ha) h.w5 (h.bd a ha) (h.bd b hb)

/-! ### rows drawn -/
def rowM (number wide high : Int) : List Int := (rgI 0 wide.toNat).map fun k => drawn number k / 4 % (2 * high + 1) - high
/-- the greatest of some -/
def top : List Int → Int
  | [] => 0
  | [x] => x
  | x :: y :: r => Max.max x (top (y :: r))
theorem top_mem : ∀ {xs : List Int}, xs ≠ [] → top xs ∈ xs ∧ ∀ y ∈ xs, y ≤ top xs
  | [], h => absurd rfl h
  | [x], _ => by simp [top]
  | x :: y :: r, _ => by
    have ih := top_mem (xs := y :: r) (by simp)
    refine ⟨?_, fun z hz => ?_⟩
    · show Max.max x (top (y :: r)) ∈ _
      by_cases h : x ≤ top (y :: r)
      · rw [show Max.max x (top (y :: r)) = top (y :: r) by omega]
        exact List.mem_cons_of_mem _ ih.1
      · rw [show Max.max x (top (y :: r)) = x by omega]
        exact List.mem_cons_self
    · show z ≤ Max.max x (top (y :: r))
      rcases List.mem_cons.mp hz with h | h
      · omega
      · have := ih.2 z h; omega
/-- one skew -/
def skew1 (rows : Tb) (number : Int) (found : Tb) (k : Int) : Tb :=
  let d := drawn number (60 + k)
  let one := d % (rows.length : Int)
  let other := d / 4 % (rows.length : Int)
  let often := d / 16 % 7 - 3
  if one ≠ other then
    let r := ((found.getD one.toNat []).zip (found.getD other.toNat [])).map fun p => p.1 + often * p.2
    if top (r.map fun x => (x.natAbs : Int)) ≤ 1000 then found.set one.toNat r else found
  else found
def skewed (rows : Tb) (number : Int) : Tb := (rgI 0 (number % 5).toNat).foldl (skew1 rows number) rows
/-- n rows of w, each number at most 1000 -/
structure Rs (n w : Nat) (rows : Tb) : Prop where
  len : rows.length = n
  wid : ∀ r ∈ rows, r.length = w
  bd : ∀ r ∈ rows, ∀ x ∈ r, x.natAbs ≤ 1000
theorem Rs.row {n w i : Nat} {t : Tb} (h : Rs n w t) (hi : i < n) : (t.getD i []).length = w ∧ ∀ x ∈ t.getD i [], x.natAbs ≤ 1000 := by
  have hl : i < t.length := by rw [h.len]; exact hi
  have e2 : t.getD i [] = t[i] := by rw [List.getD_eq_getElem?_getD, List.getElem?_eq_getElem hl]; rfl
  rw [e2]
  exact ⟨h.wid _ (List.getElem_mem hl), h.bd _ (List.getElem_mem hl)⟩
theorem Rs.rw {n w : Nat} {t : Tb} (h : Rs n w t) (hn : n ≤ 4) (hw : w ≤ 5) : Rw t w := ⟨by rw [h.len]; exact hn, hw, h.wid, fun r hr x hx => Nat.lt_of_le_of_lt (h.bd r hr x hx) (by decide)⟩
theorem Rs.set {n w i : Nat} {t : Tb} {r : List Int} (h : Rs n w t) (hr : r.length = w) (hb : ∀ x ∈ r, x.natAbs ≤ 1000) : Rs n w (t.set i r) := by
  refine ⟨by rw [List.length_set]; exact h.len, fun q hq => ?_, fun q hq => ?_⟩
  · rcases List.mem_or_eq_of_mem_set hq with z | z
    · exact h.wid q z
    · rw [z]; exact hr
  · rcases List.mem_or_eq_of_mem_set hq with z | z
    · exact h.bd q z
    · rw [z]; exact hb
theorem skew1_rs {n w : Nat} {rows t : Tb} {nu x : Int} (hl : rows.length = n) (hn : 0 < n) (h : Rs n w t) : Rs n w (skew1 rows nu t x) := by
  unfold skew1
  simp only
  have hl0 : (0 : Int) < (rows.length : Int) := by omega
  have ho1 := Int.emod_lt_of_pos (drawn nu (60 + x)) hl0
  have ho0 := Int.emod_nonneg (drawn nu (60 + x)) (show (rows.length : Int) ≠ 0 by omega)
  have hq1 := Int.emod_lt_of_pos (drawn nu (60 + x) / 4) hl0
  have hq0 := Int.emod_nonneg (drawn nu (60 + x) / 4) (show (rows.length : Int) ≠ 0 by omega)
  generalize drawn nu (60 + x) % (rows.length : Int) = a at *
  generalize drawn nu (60 + x) / 4 % (rows.length : Int) = b at *
  split
  · split
    · rename_i hle
      have r1 := h.row (show a.toNat < n by omega)
      have r2 := h.row (show b.toNat < n by omega)
      refine h.set (by rw [List.length_map, List.length_zip, r1.1, r2.1, Nat.min_self]) fun y hy => ?_
      have hm : (y.natAbs : Int) ∈ (((t.getD a.toNat []).zip (t.getD b.toNat [])).map fun p => p.1 + (drawn nu (60 + x) / 16 % 7 - 3) * p.2).map fun x => (x.natAbs : Int) := List.mem_map.mpr ⟨y, hy, rfl⟩
      have := (top_mem (List.ne_nil_of_mem hm)).2 _ hm
      omega
    · exact h
  · exact h
theorem skewed_rs {n w : Nat} {rows : Tb} {nu : Int} (hn : 0 < n) (h : Rs n w rows) : Rs n w (skewed rows nu) := by
  unfold skewed
  have key : ∀ (l : List Int) (t : Tb), Rs n w t → Rs n w (l.foldl (skew1 rows nu) t) := by
    intro l
    induction l with
    | nil => exact fun t ht => ht
    | cons x r ih => exact fun t ht => ih _ (skew1_rs h.len hn ht)
  exact key _ _ h
def highM (number : Int) : Int := [2, 6, 40, 300].getD (number / 24 % 4).toNat 0
def rowK (number wide high : Int) (k : Int) : List Int :=
  let d := drawn number k
  let r := rowM d wide high
  if number / 96 % 2 = 1 then r.take k.toNat ++ [1 + d % high] ++ List.replicate (wide - k - 1).toNat 0 else r
def rows0 (number many wide high : Int) : Tb := (rgI 0 many.toNat).map fun k => rowK number wide high k
def rows1 (number many wide high : Int) : Tb := (rgI 0 many.toNat).map fun k => List.replicate k.toNat 0 ++ [1 + k + number % high] ++ List.replicate (wide - k - 1).toNat k
def rowsM (number most : Int) : Tb :=
  let many := 1 + number % most
  let wide := many + number / 4 % (6 - many)
  let high := highM number
  let r := rows0 number many wide high
  skewed (if vol r = 0 then rows1 number many wide high else r) (number / 192)
def madeM (rows : Tb) (ws : List Int) : List Int := (ws.zip rows).foldl (fun f p => (f.zip p.2).map fun q => q.1 + p.1 * q.2) (List.replicate (rows.getD 0 []).length 0)
def weightsM (number many : Int) : List Int :=
  let high := [1, 2, 3, 50].getD (number % 4).toNat 0
  (rgI 0 many.toNat).map fun k => drawn number (30 + k) / 4 % (2 * high + 1) - high
end Mi

/-! Uprights over the fractions, in plain Lean. -/
namespace Mi
/-- a row's numbers as fractions -/
def fq (r : List Int) : List Rat := r.map fun (z : Int) => (z : Rat)
def tot (xs : List Rat) : Rat := xs.foldl (fun a b => a + b) 0
def dq : List Rat → List Rat → Rat
  | a :: x, b :: y => a * b + dq x y
  | _, _ => 0
/-- x and c times y -/
def ax (c : Rat) (x y : List Rat) : List Rat := (x.zip y).map fun p => p.1 + c * p.2
theorem fold_add (xs : List Rat) : ∀ a : Rat, xs.foldl (fun a b => a + b) a = a + xs.foldl (fun a b => a + b) 0 := by
  induction xs with
  | nil => intro a; simp [Rat.add_zero]
  | cons x r ih => intro a; rw [List.foldl_cons, List.foldl_cons, ih, ih (0 + x)]; grind
theorem tot_cons (x : Rat) (r : List Rat) : tot (x :: r) = x + tot r := by
  unfold tot
  rw [List.foldl_cons, fold_add]
  grind
theorem tot_zip : ∀ (x y : List Rat), tot ((x.zip y).map fun p => p.1 * p.2) = dq x y
  | [], _ => by simp [tot, dq]
  | _ :: _, [] => by simp [tot, dq]
  | a :: x, b :: y => by rw [List.zip_cons_cons, List.map_cons, tot_cons, tot_zip x y]; rfl
theorem along_eq (r : List Int) (u : List Rat) : tot ((r.zip u).map fun p => (p.1 : Rat) * p.2) = dq (fq r) u := by
  rw [← tot_zip]
  congr 1
  unfold fq
  rw [List.zip_map_left, List.map_map]
  rfl
theorem sq_eq : ∀ (u : List Rat), tot (u.map fun p => p * p) = dq u u
  | [] => by simp [tot, dq]
  | a :: x => by rw [List.map_cons, tot_cons, sq_eq x]; rfl
theorem lfold (x y : List Rat) : (x.zip y).foldl (fun f p => f + p.1 * p.2) 0 = dq x y := by
  rw [← tot_zip]
  unfold tot
  rw [List.foldl_map]
theorem fq_len {r : List Int} : (fq r).length = r.length := List.length_map _
theorem ax_len {c : Rat} {x y : List Rat} (h : x.length = y.length) : (ax c x y).length = x.length := by unfold ax; rw [List.length_map, List.length_zip, h, Nat.min_self]
theorem dq_comm : ∀ x y : List Rat, dq x y = dq y x
  | [], [] => rfl
  | [], _ :: _ => rfl
  | _ :: _, [] => rfl
  | a :: x, b :: y => by show a * b + dq x y = b * a + dq y x; rw [dq_comm x y]; grind
theorem ax_cons (c a b : Rat) (x y : List Rat) : ax c (a :: x) (b :: y) = (a + c * b) :: ax c x y := rfl
theorem dq_ax (c : Rat) : ∀ (x y z : List Rat), x.length = y.length → dq (ax c x y) z = dq x z + c * dq y z
  | [], [], z, _ => by cases z <;> simp [ax, dq] <;> grind
  | a :: x, b :: y, [], _ => by simp [ax, dq]; grind
  | a :: x, b :: y, d :: z, h => by
    have ih := dq_ax c x y z (by simpa using h)
    rw [ax_cons]
    show (a + c * b) * d + dq (ax c x y) z = (a * d + dq x z) + c * (b * d + dq y z)
    rw [ih]; grind
  | [], _ :: _, _, h => by simp at h
  | _ :: _, [], _, h => by simp at h
theorem dq_ax_r (c : Rat) (x y z : List Rat) (h : x.length = y.length) : dq z (ax c x y) = dq z x + c * dq z y := by
  rw [dq_comm, dq_ax c x y z h, dq_comm x, dq_comm y]
theorem mul_self_nn (a : Rat) : 0 ≤ a * a := by
  by_cases h : 0 ≤ a
  · exact Rat.mul_nonneg h h
  · have h1 : 0 ≤ -a := by grind
    have h2 := Rat.mul_nonneg h1 h1
    grind
theorem dq_nn : ∀ x : List Rat, 0 ≤ dq x x
  | [] => by simp [dq]
  | a :: x => by
    have := mul_self_nn a
    have := dq_nn x
    show 0 ≤ a * a + dq x x
    grind
theorem mul_self_z {a : Rat} (h : a * a = 0) : a = 0 := by
  rcases Rat.mul_eq_zero.mp h with h | h <;> exact h
theorem dq_z : ∀ {x : List Rat}, dq x x = 0 → ∀ a ∈ x, a = 0
  | [], _, _, h => by simp at h
  | b :: x, h, a, ha => by
    have h' : b * b + dq x x = 0 := h
    have h1 := mul_self_nn b
    have h2 := dq_nn x
    have e1 : b * b = 0 := by grind
    have e2 : dq x x = 0 := by grind
    rcases List.mem_cons.mp ha with z | z
    · rw [z]; exact mul_self_z e1
    · exact dq_z e2 a z
theorem dq_zero_l : ∀ {x : List Rat} (z : List Rat), (∀ a ∈ x, a = 0) → dq x z = 0
  | [], z, _ => by cases z <;> rfl
  | _ :: _, [], _ => rfl
  | a :: x, b :: z, h => by
    show a * b + dq x z = 0
    rw [h a List.mem_cons_self, dq_zero_l z fun c hc => h c (List.mem_cons_of_mem _ hc)]
    grind
/-! ### uprights -/
/-- the share of u in r -/
def sh (r : List Int) (u : List Rat) : Rat := dq (fq r) u / dq u u
/-- r less its shares of some -/
def upf (r : List Int) (us : List (List Rat)) (here : List Rat) : List Rat := us.foldl (fun here u => ax (-(sh r u)) here u) here
def up (us : List (List Rat)) (r : List Int) : List Rat := upf r us (fq r)
def ups (rows : Tb) : List (List Rat) := rows.foldl (fun us r => us ++ [up us r]) []
theorem ups_snoc (rows : Tb) (r : List Int) : ups (rows ++ [r]) = ups rows ++ [up (ups rows) r] := by
  unfold ups
  rw [List.foldl_append]
  rfl
theorem upf_len {w : Nat} {r : List Int} : ∀ {us : List (List Rat)} {here : List Rat}, (∀ u ∈ us, u.length = w) → here.length = w → (upf r us here).length = w
  | [], _, _, h => h
  | u :: us, here, hu, h => by
    have h1 := hu u List.mem_cons_self
    exact upf_len (us := us) (fun v hv => hu v (List.mem_cons_of_mem _ hv)) (by rw [ax_len (h.trans h1.symm), h])
theorem up_len {w : Nat} {r : List Int} {us : List (List Rat)} (hu : ∀ u ∈ us, u.length = w) (h : r.length = w) : (up us r).length = w := upf_len hu (by rw [fq_len, h])
/-- of one width, each at right angles to each other one, none nought -/
structure Rt (w : Nat) (us : List (List Rat)) : Prop where
  wid : ∀ u ∈ us, u.length = w
  rt : us.Pairwise fun a b => dq a b = 0
  nz : ∀ u ∈ us, dq u u ≠ 0
/-- the shares of some, taken away -/
def shs (r : List Int) (us : List (List Rat)) (z : List Rat) : Rat := (us.map fun u => sh r u * dq u z).foldl (fun a b => a + b) 0
theorem upf_dq {w : Nat} {r : List Int} (z : List Rat) : ∀ {us : List (List Rat)} {here : List Rat}, (∀ u ∈ us, u.length = w) → here.length = w → dq (upf r us here) z = dq here z - tot (us.map fun u => sh r u * dq u z)
  | [], here, _, _ => by show dq here z = dq here z - tot []; simp [tot]; grind
  | u :: us, here, hu, h => by
    have h1 := hu u List.mem_cons_self
    have h2 : here.length = u.length := h.trans h1.symm
    have ih := upf_dq (r := r) z (us := us) (here := ax (-(sh r u)) here u) (fun v hv => hu v (List.mem_cons_of_mem _ hv)) (by rw [ax_len h2, h])
    show dq (upf r us (ax (-(sh r u)) here u)) z = _
    rw [ih, dq_ax _ _ _ _ h2, List.map_cons, tot_cons]
    grind
theorem upf_rt {w : Nat} {r : List Int} : ∀ {us : List (List Rat)} {here : List Rat}, Rt w us → here.length = w → (∀ u ∈ us, dq here u = dq (fq r) u) → ∀ u ∈ us, dq (upf r us here) u = 0
  | [], _, _, _, _, u, hu => by simp at hu
  | v :: us, here, R, h, he, u, hu => by
    have h1 := R.wid v List.mem_cons_self
    have h2 : here.length = v.length := h.trans h1.symm
    have rt := List.pairwise_cons.mp R.rt
    have R' : Rt w us := ⟨fun v hv => R.wid v (List.mem_cons_of_mem _ hv), rt.2, fun v hv => R.nz v (List.mem_cons_of_mem _ hv)⟩
    show dq (upf r us (ax (-(sh r v)) here v)) u = 0
    rcases List.mem_cons.mp hu with z | hu'
    · subst z
      rw [upf_dq u R'.wid (by rw [ax_len h2, h]), dq_ax _ _ _ _ h2, he u List.mem_cons_self]
      have e : tot (us.map fun v => sh r v * dq v u) = 0 := by
        have key : ∀ l : List (List Rat), (∀ x ∈ l, dq u x = 0) → tot (l.map fun v => sh r v * dq v u) = 0 := by
          intro l
          induction l with
          | nil => intro _; rfl
          | cons x l ih =>
            intro hl
            rw [List.map_cons, tot_cons, ih fun y hy => hl y (List.mem_cons_of_mem _ hy), dq_comm, hl x List.mem_cons_self]
            grind
        exact key us rt.1
      rw [e]
      have hn := R.nz u List.mem_cons_self
      unfold sh
      have : dq (fq r) u / dq u u * dq u u = dq (fq r) u := Rat.div_mul_cancel hn
      grind
    · refine upf_rt R' (by rw [ax_len h2, h]) (fun x hx => ?_) u hu'
      rw [dq_ax _ _ _ _ h2, rt.1 x hx, he x (List.mem_cons_of_mem _ hx)]
      grind
theorem up_rt {w : Nat} {r : List Int} {us : List (List Rat)} (R : Rt w us) (h : r.length = w) : ∀ u ∈ us, dq (up us r) u = 0 := upf_rt R (by rw [fq_len, h]) fun _ _ => rfl
theorem up_dq {w : Nat} {r : List Int} {us : List (List Rat)} (R : Rt w us) (h : r.length = w) (z : List Rat) : dq (up us r) z = dq (fq r) z - tot (us.map fun u => sh r u * dq u z) := upf_dq z R.wid (by rw [fq_len, h])
theorem tot_z : ∀ {l : List (List Rat)} {f : List Rat → Rat}, (∀ x ∈ l, f x = 0) → tot (l.map f) = 0
  | [], _, _ => rfl
  | x :: l, f, h => by rw [List.map_cons, tot_cons, tot_z fun y hy => h y (List.mem_cons_of_mem _ hy), h x List.mem_cons_self]; grind
/-- what stands at right angles to all of them sees the row as it is -/
theorem up_dq_rt {w : Nat} {r : List Int} {us : List (List Rat)} (R : Rt w us) (h : r.length = w) {z : List Rat} (hz : ∀ u ∈ us, dq u z = 0) : dq (up us r) z = dq (fq r) z := by
  rw [up_dq R h, tot_z fun u hu => by rw [hz u hu]; grind]
  grind
theorem Rt.snoc {w : Nat} {r : List Int} {us : List (List Rat)} (R : Rt w us) (h : r.length = w) (hn : dq (up us r) (up us r) ≠ 0) : Rt w (us ++ [up us r]) := by
  refine ⟨fun u hu => ?_, ?_, fun u hu => ?_⟩
  · rcases List.mem_append.mp hu with z | z
    · exact R.wid u z
    · rw [List.mem_singleton.mp z]; exact up_len R.wid h
  · refine List.pairwise_append.mpr ⟨R.rt, List.pairwise_singleton _ _, fun a ha b hb => ?_⟩
    rw [List.mem_singleton.mp hb, dq_comm]
    exact up_rt R h a ha
  · rcases List.mem_append.mp hu with z | z
    · exact R.nz u z
    · rw [List.mem_singleton.mp z]; exact hn
end Mi

/-! The table squared out, exactly. -/
set_option maxHeartbeats 4000000
namespace Mi
theorem mdc {a b : Rat} (h : a ≠ 0) : a * (b / a) = b := by rw [Rat.mul_comm]; exact Rat.div_mul_cancel h
theorem canc {a b c : Rat} (h : a ≠ 0) (e : a * b = a * c) : b = c := by
  have : a * (b - c) = 0 := by grind
  rcases Rat.mul_eq_zero.mp this with z | z
  · exact absurd z h
  · grind
def ee (G : Nat → Nat → Rat) : Nat → Nat → Nat → Rat
  | 0, i, j => G i j
  | k + 1, i, j => ee G k i j - ee G k i k * ee G k j k / ee G k k k
def de (G : Nat → Nat → Rat) : Nat → Rat
  | 0 => 1
  | k + 1 => de G k * ee G k k k
theorem ee_comm {G : Nat → Nat → Rat} (h : ∀ i j, G i j = G j i) : ∀ k i j, ee G k i j = ee G k j i
  | 0, i, j => h i j
  | k + 1, i, j => by
    show ee G k i j - ee G k i k * ee G k j k / ee G k k k = ee G k j i - ee G k j k * ee G k i k / ee G k k k
    rw [ee_comm h k i j]
    grind
theorem de1 {G : Nat → Nat → Rat} : de G 1 = G 0 0 := by show 1 * G 0 0 = G 0 0; grind
theorem ee1 {G : Nat → Nat → Rat} (h0 : G 0 0 ≠ 0) (i j : Nat) : de G 1 * ee G 1 i j = G 0 0 * G i j - G i 0 * G j 0 := by
  show 1 * G 0 0 * (G i j - G i 0 * G j 0 / G 0 0) = _
  have : G 0 0 * (G i 0 * G j 0 / G 0 0) = G i 0 * G j 0 := mdc h0
  grind
/-- three rows against three -/
def m3 (G : Nat → Nat → Rat) (i j : Nat) : Rat :=
  G 0 0 * (G 1 1 * G i j - G i 1 * G j 1) - G 1 0 * (G 1 0 * G i j - G i 1 * G j 0) + G i 0 * (G 1 0 * G j 1 - G 1 1 * G j 0)
theorem ee_step {G : Nat → Nat → Rat} {k : Nat} (h : ee G k k k ≠ 0) (i j : Nat) : de G k * (de G (k + 1) * ee G (k + 1) i j) = (de G k * ee G k k k) * (de G k * ee G k i j) - (de G k * ee G k i k) * (de G k * ee G k j k) := by
  show de G k * (de G k * ee G k k k * (ee G k i j - ee G k i k * ee G k j k / ee G k k k)) = _
  have : ee G k k k * (ee G k i k * ee G k j k / ee G k k k) = ee G k i k * ee G k j k := mdc h
  grind
theorem ee2 {G : Nat → Nat → Rat} (h0 : de G 1 ≠ 0) (h1 : de G 2 ≠ 0) (i j : Nat) : de G 2 * ee G 2 i j = m3 G i j := by
  have e0 : G 0 0 ≠ 0 := fun z => h0 (by rw [de1]; exact z)
  have e1 : ee G 1 1 1 ≠ 0 := fun z => h1 (by show de G 1 * ee G 1 1 1 = 0; rw [z]; grind)
  have s := ee_step e1 i j
  rw [ee1 e0, ee1 e0, ee1 e0, ee1 e0, de1] at s
  have : G 0 0 * (de G 2 * ee G 2 i j) = G 0 0 * m3 G i j := by rw [s]; unfold m3; grind
  exact canc e0 this
/-- four against four -/
def m4 (G : Nat → Nat → Rat) (i j : Nat) : Rat := 0 + G 0 0 * G 1 1 * G 2 2 * G i j - G 0 0 * G 1 1 * G j 2 * G i 2 - G 0 0 * G 2 1 * G 2 1 * G i j + G 0 0 * G 2 1 * G j 2 * G i 1 + G 0 0 * G j 1 * G 2 1 * G i 2 - G 0 0 * G j 1 * G 2 2 * G i 1 - G 1 0 * G 1 0 * G 2 2 * G i j + G 1 0 * G 1 0 * G j 2 * G i 2 + G 1 0 * G 2 1 * G 2 0 * G i j - G 1 0 * G 2 1 * G j 2 * G i 0 - G 1 0 * G j 1 * G 2 0 * G i 2 + G 1 0 * G j 1 * G 2 2 * G i 0 + G 2 0 * G 1 0 * G 2 1 * G i j - G 2 0 * G 1 0 * G j 2 * G i 1 - G 2 0 * G 1 1 * G 2 0 * G i j + G 2 0 * G 1 1 * G j 2 * G i 0 + G 2 0 * G j 1 * G 2 0 * G i 1 - G 2 0 * G j 1 * G 2 1 * G i 0 - G j 0 * G 1 0 * G 2 1 * G i 2 + G j 0 * G 1 0 * G 2 2 * G i 1 + G j 0 * G 1 1 * G 2 0 * G i 2 - G j 0 * G 1 1 * G 2 2 * G i 0 - G j 0 * G 2 1 * G 2 0 * G i 1 + G j 0 * G 2 1 * G 2 1 * G i 0
theorem ee3 {G : Nat → Nat → Rat} (h0 : de G 1 ≠ 0) (h1 : de G 2 ≠ 0) (h2 : de G 3 ≠ 0) (i j : Nat) : de G 3 * ee G 3 i j = m4 G i j := by
  have e2 : ee G 2 2 2 ≠ 0 := fun z => h2 (by show de G 2 * ee G 2 2 2 = 0; rw [z]; grind)
  have e0 : G 0 0 ≠ 0 := fun z => h0 (by rw [de1]; exact z)
  have s := ee_step e2 i j
  rw [ee2 h0 h1, ee2 h0 h1, ee2 h0 h1, ee2 h0 h1] at s
  have d2 : de G 2 = G 0 0 * G 1 1 - G 1 0 * G 1 0 := by
    show de G 1 * ee G 1 1 1 = _
    rw [ee1 e0]
  have : de G 2 * (de G 3 * ee G 3 i j) = de G 2 * m4 G i j := by rw [s, d2]; unfold m3 m4; grind
  exact canc h1 this
end Mi

/-! What the table squared out tells. -/
set_option maxHeartbeats 4000000
namespace Mi
def Gr (rows : Tb) (i j : Nat) : Rat := dq (fq (rows.getD i [])) (fq (rows.getD j []))
theorem Gr_comm (rows : Tb) (i j : Nat) : Gr rows i j = Gr rows j i := dq_comm _ _
theorem dotI_cons (a b : Int) (x y : List Int) : dotI (a :: x) (b :: y) = a * b + dotI x y := by unfold dotI; rw [List.zip_cons_cons, List.map_cons, List.sum_cons]
theorem dotI_q : ∀ a b : List Int, ((dotI a b : Int) : Rat) = dq (fq a) (fq b)
  | [], _ => rfl
  | _ :: _, [] => rfl
  | x :: a, y :: b => by
    rw [dotI_cons]
    show _ = (x : Rat) * (y : Rat) + dq (fq a) (fq b)
    rw [← dotI_q a b]
    grind
/-- a whole number -/
def Wh (x : Rat) : Prop := ∃ z : Int, (z : Rat) = x
theorem Wh.add {x y : Rat} : Wh x → Wh y → Wh (x + y) := fun ⟨a, h⟩ ⟨b, k⟩ => ⟨a + b, by rw [← h, ← k]; grind⟩
theorem Wh.sub {x y : Rat} : Wh x → Wh y → Wh (x - y) := fun ⟨a, h⟩ ⟨b, k⟩ => ⟨a - b, by rw [← h, ← k]; grind⟩
theorem Wh.mul {x y : Rat} : Wh x → Wh y → Wh (x * y) := fun ⟨a, h⟩ ⟨b, k⟩ => ⟨a * b, by rw [← h, ← k]; grind⟩
theorem Wh.gr (rows : Tb) (i j : Nat) : Wh (Gr rows i j) := ⟨_, dotI_q _ _⟩
theorem Wh.ee {rows : Tb} {k : Nat} (hk : k ≤ 3) (h : ∀ m, m ≤ k → de (Gr rows) m ≠ 0) (i j : Nat) : Wh (de (Gr rows) k * ee (Gr rows) k i j) := by
  have g := Wh.gr rows
  match k, hk, h with
  | 0, _, _ => exact Wh.mul ⟨1, rfl⟩ (g i j)
  | 1, _, h =>
    rw [ee1 (fun z => h 1 (Nat.le_refl _) (by rw [de1]; exact z))]
    exact .sub (.mul (g _ _) (g _ _)) (.mul (g _ _) (g _ _))
  | 2, _, h =>
    rw [ee2 (h 1 (by omega)) (h 2 (by omega))]
    unfold m3
    repeat first | exact g _ _ | apply Wh.add | apply Wh.sub | apply Wh.mul
  | 3, _, h =>
    rw [ee3 (h 1 (by omega)) (h 2 (by omega)) (h 3 (by omega))]
    unfold m4
    repeat first | exact g _ _ | exact ⟨0, rfl⟩ | apply Wh.add | apply Wh.sub | apply Wh.mul
theorem at2_gram {rows : Tb} {i j : Nat} (hi : i < rows.length) (hj : j < rows.length) : ((at2 (gram rows) i j : Int) : Rat) = Gr rows i j := by
  have e : at2 (gram rows) i j = dotI (rows.getD i []) (rows.getD j []) := by
    unfold at2 gram
    rw [List.getD_eq_getElem?_getD (l := rows.map _), List.getElem?_map, List.getElem?_eq_getElem hi, List.getD_eq_getElem?_getD]
    show ((rows.map fun other => dotI rows[i] other)[j]?).getD 0 = _
    rw [List.getElem?_map, List.getElem?_eq_getElem hj, List.getD_eq_getElem?_getD, List.getD_eq_getElem?_getD, List.getElem?_eq_getElem hi, List.getElem?_eq_getElem hj]
    rfl
  rw [e, dotI_q]
  rfl
theorem fdiv_ex {x d z : Int} (hd : d ≠ 0) (h : x = d * z) : x.fdiv d = z := by rw [h]; exact Int.mul_fdiv_cancel_left z hd
/-- the shape alone -/
structure Sh (n : Nat) (t : Tb) : Prop where
  len : t.length = n
  wid : ∀ i, i < n → (t.getD i []).length = n
theorem elimB_at {n a b j : Nat} {last : Int} {t : Tb} (h : Sh n t) (ha : a < n) (hb : b < n) (hj : j < n) : at2 (elimB last a t b) b j = (at2 t a a * at2 t b j - at2 t b a * at2 t a j).fdiv last := by
  unfold elimB
  have hl : b < t.length := by rw [h.len]; exact hb
  conv => lhs; unfold at2
  rw [List.getD_eq_getElem?_getD, List.getD_eq_getElem?_getD, List.getElem?_set_self hl]
  show (((t.getD b []).zip (t.getD a [])).map _)[j]?.getD 0 = _
  have h1 := h.wid a ha
  have h2 := h.wid b hb
  have hz : j < ((t.getD b []).zip (t.getD a [])).length := by rw [List.length_zip, h1, h2, Nat.min_self]; exact hj
  rw [List.getElem?_map, List.getElem?_eq_getElem hz]
  show ((at2 t a a * (((t.getD b []).zip (t.getD a []))[j]'hz).1 - at2 t b a * (((t.getD b []).zip (t.getD a []))[j]'hz).2).fdiv last) = _
  have e1 : ((t.getD b []).zip (t.getD a []))[j]'hz = (at2 t b j, at2 t a j) := by
    rw [List.getElem_zip]
    unfold at2
    rw [List.getD_eq_getElem?_getD (l := t.getD b []), List.getD_eq_getElem?_getD (l := t.getD a []), List.getElem?_eq_getElem, List.getElem?_eq_getElem]
    rfl
  rw [e1]
theorem Sh.elimB {n a b : Nat} {last : Int} {t : Tb} (h : Sh n t) (ha : a < n) (hb : b < n) : Sh n (elimB last a t b) := by
  refine ⟨by unfold Mi.elimB; rw [List.length_set]; exact h.len, fun i hi => ?_⟩
  by_cases e : i = b
  · subst e
    unfold Mi.elimB
    rw [List.getD_eq_getElem?_getD, List.getElem?_set_self (by rw [h.len]; exact hb)]
    show (((t.getD i []).zip (t.getD a [])).map _).length = n
    rw [List.length_map, List.length_zip, h.wid _ ha, h.wid _ hb, Nat.min_self]
  · rw [elimB_other e]
    exact h.wid i hi
theorem elimA_at {n a : Nat} {last : Int} {t : Tb} (h : Sh n t) (ha : a < n) : ∀ k, a + 1 + k ≤ n → Sh n (elimA n last a t k) ∧ (∀ c, c ≤ a ∨ a + 1 + k ≤ c → (elimA n last a t k).getD c [] = t.getD c []) ∧ ∀ c j, a + 1 ≤ c → c < a + 1 + k → j < n → at2 (elimA n last a t k) c j = (at2 t a a * at2 t c j - at2 t c a * at2 t a j).fdiv last
  | 0, _ => ⟨by unfold elimA; exact h, fun _ _ => rfl, fun c j h1 h2 _ => by omega⟩
  | k + 1, hk => by
    obtain ⟨h1, h2, h3⟩ := elimA_at (last := last) h ha k (by omega)
    rw [elimA_succ]
    refine ⟨h1.elimB ha (by omega), fun c hc => by rw [elimB_other (by omega), h2 c (by omega)], fun c j hc1 hc2 hj => ?_⟩
    by_cases e : c = a + 1 + k
    · subst e
      rw [elimB_at h1 ha (by omega) hj]
      have ea := h2 a (.inl (Nat.le_refl _))
      have eb := h2 (a + 1 + k) (.inr (Nat.le_refl _))
      unfold at2
      rw [ea, eb]
    · have := h3 c j hc1 (by omega) hj
      rw [← this]
      unfold at2
      rw [elimB_other e]
/-- the table at turn a -/
structure BI (rows : Tb) (a : Nat) (t : Tb) (last : Int) : Prop where
  sh : Sh rows.length t
  tab : ∀ i j, a ≤ i → i < rows.length → a ≤ j → j < rows.length → ((at2 t i j : Int) : Rat) = de (Gr rows) a * ee (Gr rows) a i j
  last : (last : Rat) = de (Gr rows) a
  nz : ∀ m, m ≤ a → de (Gr rows) m ≠ 0
theorem BI.start (rows : Tb) : BI rows 0 (gram rows) 1 := by
  refine ⟨⟨by unfold gram; rw [List.length_map], fun i hi => ?_⟩, fun i j _ hi _ hj => ?_, rfl, fun m hm => ?_⟩
  · unfold gram
    rw [List.getD_eq_getElem?_getD, List.getElem?_map, List.getElem?_eq_getElem hi]
    show (rows.map _).length = _
    rw [List.length_map]
  · rw [at2_gram hi hj]
    show Gr rows i j = 1 * Gr rows i j
    grind
  · rw [show m = 0 by omega]
    show (1 : Rat) ≠ 0
    decide
theorem BI.lead {rows : Tb} {a : Nat} {t : Tb} {last : Int} (h : BI rows a t last) (ha : a < rows.length) : ((at2 t a a : Int) : Rat) = de (Gr rows) (a + 1) := h.tab a a (Nat.le_refl _) ha (Nat.le_refl _) ha
theorem int_inj {a b : Int} (h : (a : Rat) = (b : Rat)) : a = b := by exact_mod_cast h
theorem BI.next {rows : Tb} {a : Nat} {t : Tb} {last : Int} (h : BI rows a t last) (h4 : rows.length ≤ 4) (ha : a < rows.length) (h0 : at2 t a a ≠ 0) : BI rows (a + 1) (elimA rows.length last a t (rows.length - (a + 1))) (at2 t a a) := by
  obtain ⟨h1, h2, h3⟩ := elimA_at (last := last) h.sh ha (rows.length - (a + 1)) (by omega)
  have hl := h.lead ha
  have hd : de (Gr rows) (a + 1) ≠ 0 := by
    rw [← hl]
    exact fun z => h0 (int_inj (by rw [z]; rfl))
  have hnz : ∀ m, m ≤ a + 1 → de (Gr rows) m ≠ 0 := fun m hm => by
    by_cases e : m = a + 1
    · rw [e]; exact hd
    · exact h.nz m (by omega)
  have hlast : last ≠ 0 := fun z => h.nz a (Nat.le_refl _) (by rw [← h.last, z]; rfl)
  have hek : ee (Gr rows) a a a ≠ 0 := fun z => hd (by show de (Gr rows) a * ee (Gr rows) a a a = 0; rw [z]; grind)
  refine ⟨h1, fun i j hi1 hi2 hj1 hj2 => ?_, hl, hnz⟩
  rw [h3 i j hi1 (by omega) hj2]
  obtain ⟨z, hz⟩ := Wh.ee (k := a + 1) (by omega) hnz i j
  rw [← hz]
  congr 1
  refine fdiv_ex hlast (int_inj ?_)
  have s := ee_step hek i j
  have e1 := h.tab a a (Nat.le_refl _) ha (Nat.le_refl _) ha
  have e2 := h.tab i j (by omega) hi2 (by omega) hj2
  have e3 := h.tab i a (by omega) hi2 (Nat.le_refl _) ha
  have e4 := h.tab a j (Nat.le_refl _) ha (by omega) hj2
  rw [ee_comm (Gr_comm rows)] at e4
  rw [← e1, ← e2, ← e3, ← e4, ← hz, ← h.last] at s
  grind
theorem volGo_ok {rows : Tb} (h4 : rows.length ≤ 4) : ∀ (f a : Nat) (t : Tb) (last : Int), a + f = rows.length → BI rows a t last →
    (volGo rows.length f a t last ≠ 0 → (∀ m, m ≤ rows.length → de (Gr rows) m ≠ 0) ∧ ((volGo rows.length f a t last : Int) : Rat) = de (Gr rows) rows.length) ∧ ((∀ m, m ≤ rows.length → de (Gr rows) m ≠ 0) → volGo rows.length f a t last ≠ 0)
  | 0, a, t, last, hf, h => by
    have e : a = rows.length := by omega
    subst e
    exact ⟨fun _ => ⟨h.nz, h.last⟩, fun hm z => h.nz _ (Nat.le_refl _) (by rw [← h.last]; show ((last : Int) : Rat) = 0; rw [show last = 0 from z]; rfl)⟩
  | f + 1, a, t, last, hf, h => by
    unfold volGo
    by_cases h0 : at2 t a a = 0
    · rw [if_pos h0]
      refine ⟨fun z => absurd rfl z, fun hm => absurd (h.lead (by omega)) ?_⟩
      rw [h0]
      exact fun z => hm (a + 1) (by omega) z.symm
    · rw [if_neg h0]
      exact volGo_ok h4 f (a + 1) _ _ (by omega) (h.next h4 (by omega) h0)
/-- vol is no nought: it is the last product, and none ahead of it is nought -/
theorem vol_nz {rows : Tb} (h4 : rows.length ≤ 4) : vol rows ≠ 0 ↔ ∀ m, m ≤ rows.length → de (Gr rows) m ≠ 0 :=
  ⟨fun h => ((volGo_ok h4 rows.length 0 _ _ (by omega) (BI.start rows)).1 h).1, (volGo_ok h4 rows.length 0 _ _ (by omega) (BI.start rows)).2⟩
theorem vol_de {rows : Tb} (h4 : rows.length ≤ 4) (h : vol rows ≠ 0) : (vol rows : Rat) = de (Gr rows) rows.length := ((volGo_ok h4 rows.length 0 _ _ (by omega) (BI.start rows)).1 h).2
end Mi

/-! The uprights and the table. -/
set_option maxHeartbeats 4000000
namespace Mi
theorem getD_mem {r : Tb} {i : Nat} (h : i < r.length) : r.getD i [] ∈ r := by
  rw [List.getD_eq_getElem?_getD, List.getElem?_eq_getElem h]
  exact List.getElem_mem h
theorem take_snoc {r : Tb} {k : Nat} (h : k < r.length) : r.take (k + 1) = r.take k ++ [r.getD k []] := by
  rw [List.take_add_one, List.getElem?_eq_getElem h, List.getD_eq_getElem?_getD, List.getElem?_eq_getElem h]
  rfl
theorem up_snoc (us : List (List Rat)) (u : List Rat) (r : List Int) : up (us ++ [u]) r = ax (-(sh r u)) (up us r) u := by
  unfold up upf
  rw [List.foldl_append]
  rfl
/-- rows of one width -/
def Wd (w : Nat) (rows : Tb) : Prop := ∀ r ∈ rows, r.length = w
theorem Wd.at {w : Nat} {rows : Tb} (h : Wd w rows) {i : Nat} (hi : i < rows.length) : (rows.getD i []).length = w := h _ (getD_mem hi)
theorem gs_ee {w : Nat} {rows : Tb} (W : Wd w rows) : ∀ k, k ≤ rows.length → (∀ m, m ≤ k → de (Gr rows) m ≠ 0) →
    Rt w (ups (rows.take k)) ∧ ∀ i j, i < rows.length → j < rows.length → dq (up (ups (rows.take k)) (rows.getD i [])) (up (ups (rows.take k)) (rows.getD j [])) = ee (Gr rows) k i j
  | 0, _, _ => by
    refine ⟨⟨fun u hu => ?_, ?_, fun u hu => ?_⟩, fun i j _ _ => rfl⟩
    · rw [List.take_zero] at hu; simp [ups] at hu
    · rw [List.take_zero]; exact List.Pairwise.nil
    · rw [List.take_zero] at hu; simp [ups] at hu
  | k + 1, hk, hd => by
    obtain ⟨R, he⟩ := gs_ee W k (by omega) fun m hm => hd m (by omega)
    have hkn : k < rows.length := by omega
    have hek : ee (Gr rows) k k k ≠ 0 := fun z => hd (k + 1) (Nat.le_refl _) (by show de (Gr rows) k * ee (Gr rows) k k k = 0; rw [z]; grind)
    have huu := he k k hkn hkn
    rw [take_snoc hkn, ups_snoc]
    have R' := R.snoc (W.at hkn) (by rw [huu]; exact hek)
    refine ⟨R', fun i j hi hj => ?_⟩
    rw [up_snoc, up_snoc]
    have key : ∀ i, i < rows.length → sh (rows.getD i []) (up (ups (rows.take k)) (rows.getD k [])) = ee (Gr rows) k i k / ee (Gr rows) k k k := fun i hi => by
      unfold sh
      rw [huu, ← up_dq_rt R (W.at hi) (fun v hv => by rw [dq_comm]; exact up_rt R (W.at hkn) v hv), he i k hi hkn]
    have l1 := up_len (us := ups (rows.take k)) R.wid (W.at hi)
    have l2 := up_len (us := ups (rows.take k)) R.wid (W.at hj)
    have l3 := up_len (us := ups (rows.take k)) R.wid (W.at hkn)
    rw [dq_ax _ _ _ _ (l1.trans l3.symm), dq_ax_r _ _ _ _ (l2.trans l3.symm), dq_ax_r _ _ _ _ (l2.trans l3.symm), he i j hi hj, he i k hi hkn, huu, key i hi, key j hj, dq_comm (up _ (rows.getD k [])), he j k hj hkn]
    show _ = ee (Gr rows) k i j - ee (Gr rows) k i k * ee (Gr rows) k j k / ee (Gr rows) k k k
    have e1 : ee (Gr rows) k i k / ee (Gr rows) k k k * ee (Gr rows) k k k = ee (Gr rows) k i k := Rat.div_mul_cancel hek
    have e2 : ee (Gr rows) k j k / ee (Gr rows) k k k * ee (Gr rows) k k k = ee (Gr rows) k j k := Rat.div_mul_cancel hek
    have e3 : ee (Gr rows) k i k * ee (Gr rows) k j k / ee (Gr rows) k k k = ee (Gr rows) k i k / ee (Gr rows) k k k * ee (Gr rows) k j k := by grind
    rw [e3]
    grind
/-- what is as long as nought is nought, seen from each other one -/
theorem ee_z {w : Nat} {rows : Tb} (W : Wd w rows) {k : Nat} (hk : k < rows.length) (hd : ∀ m, m ≤ k → de (Gr rows) m ≠ 0) (h : ee (Gr rows) k k k = 0) : ∀ i, i < rows.length → ee (Gr rows) k i k = 0 := fun i hi => by
  obtain ⟨_, he⟩ := gs_ee W k (by omega) hd
  rw [← he i k hi hk, dq_comm]
  exact dq_zero_l _ (dq_z (by rw [he k k hk hk]; exact h))
/-- the table's number, written out -/
def gd (G : Nat → Nat → Rat) : Nat → Rat
  | 0 => 1
  | 1 => G 0 0
  | 2 => G 0 0 * G 1 1 - G 1 0 * G 1 0
  | 3 => m3 G 2 2
  | 4 => m4 G 3 3
  | _ => 0
theorem de2 {G : Nat → Nat → Rat} (h0 : de G 1 ≠ 0) : de G 2 = G 0 0 * G 1 1 - G 1 0 * G 1 0 := by
  have e0 : G 0 0 ≠ 0 := fun z => h0 (by rw [de1]; exact z)
  show de G 1 * ee G 1 1 1 = _
  rw [ee1 e0]
theorem de_gd {G : Nat → Nat → Rat} : ∀ {n}, n ≤ 4 → (∀ m, m ≤ n → de G m ≠ 0) → de G n = gd G n
  | 0, _, _ => rfl
  | 1, _, _ => de1
  | 2, _, h => de2 (h 1 (by omega))
  | 3, _, h => ee2 (h 1 (by omega)) (h 2 (by omega)) 2 2
  | 4, _, h => ee3 (h 1 (by omega)) (h 2 (by omega)) (h 3 (by omega)) 3 3
  | n + 5, h, _ => by omega
theorem syl (G : Nat → Nat → Rat) (i j : Nat) : (G 0 0 * G 1 1 - G 1 0 * G 1 0) * m4 G i j = m3 G 2 2 * m3 G i j - m3 G i 2 * m3 G j 2 := by unfold m3 m4; grind
theorem syl3 (G : Nat → Nat → Rat) (i j : Nat) : G 0 0 * m3 G i j = (G 0 0 * G 1 1 - G 1 0 * G 1 0) * (G 0 0 * G i j - G i 0 * G j 0) - (G 0 0 * G i 1 - G i 0 * G 1 0) * (G 0 0 * G j 1 - G j 0 * G 1 0) := by unfold m3; grind
theorem gd_nz {w : Nat} {rows : Tb} (W : Wd w rows) (h4 : rows.length ≤ 4) (h : gd (Gr rows) rows.length ≠ 0) : ∀ m, m ≤ rows.length → de (Gr rows) m ≠ 0 := by
  intro m
  induction m with
  | zero => intro _; show (1 : Rat) ≠ 0; decide
  | succ k ih =>
    intro hm z
    have hd : ∀ m, m ≤ k → de (Gr rows) m ≠ 0 := by
      intro m hm2
      by_cases e : m = k
      · rw [e]; exact ih (by omega)
      · exact fun z => absurd z (by
          have : ∀ j, j ≤ k → de (Gr rows) j ≠ 0 := by
            intro j
            induction k generalizing j with
            | zero => intro hj; rw [show j = 0 by omega]; show (1 : Rat) ≠ 0; decide
            | succ k ihk =>
              intro hj
              by_cases e : j = k + 1
              · rw [e]; exact ih (by omega)
              · exact fun z2 => ih (by omega) (by
                  exfalso
                  have dz : ∀ a b, a ≤ b → de (Gr rows) a = 0 → de (Gr rows) b = 0 := by
                    intro a b hab hz
                    induction b with
                    | zero => rw [show a = 0 by omega] at hz; exact hz
                    | succ b ihb =>
                      by_cases e : a = b + 1
                      · rw [← e]; exact hz
                      · show de (Gr rows) b * _ = 0
                        rw [ihb (by omega)]; grind
                  exact ih (by omega) (dz j (k + 1) (by omega) z2))
          exact this m hm2)
    have hek : ee (Gr rows) k k k = 0 := by
      have z' : de (Gr rows) k * ee (Gr rows) k k k = 0 := z
      rcases Rat.mul_eq_zero.mp z' with z | z
      · exact absurd z (hd k (Nat.le_refl _))
      · exact z
    have hz := ee_z W (by omega) hd hek
    apply h
    generalize rows.length = n at *
    generalize Gr rows = G at *
    match k, n, hm, h4, hd, hz with
    | 0, 1, _, _, _, hz => exact hz 0 (by omega)
    | 0, 2, _, _, _, hz =>
      have h0 : G 0 0 = 0 := hz 0 (by omega)
      have h1 : G 1 0 = 0 := hz 1 (by omega)
      show G 0 0 * G 1 1 - G 1 0 * G 1 0 = 0
      rw [h0, h1]; grind
    | 0, 3, _, _, _, hz =>
      have h0 : G 0 0 = 0 := hz 0 (by omega)
      have h1 : G 1 0 = 0 := hz 1 (by omega)
      have h2 : G 2 0 = 0 := hz 2 (by omega)
      show m3 G 2 2 = 0
      unfold m3
      rw [h0, h1, h2]; grind
    | 0, 4, _, _, _, hz =>
      have h0 : G 0 0 = 0 := hz 0 (by omega)
      have h1 : G 1 0 = 0 := hz 1 (by omega)
      have h2 : G 2 0 = 0 := hz 2 (by omega)
      have h3 : G 3 0 = 0 := hz 3 (by omega)
      show m4 G 3 3 = 0
      unfold m4
      rw [h0, h1, h2, h3]; grind
    | 1, 2, _, _, hd, hz =>
      have e0 : G 0 0 ≠ 0 := fun z => hd 1 (by omega) (by rw [de1]; exact z)
      show G 0 0 * G 1 1 - G 1 0 * G 1 0 = 0
      rw [← ee1 e0, hz 1 (by omega)]; grind
    | 1, 3, _, _, hd, hz =>
      have e0 : G 0 0 ≠ 0 := fun z => hd 1 (by omega) (by rw [de1]; exact z)
      have h1 := ee1 e0 1 1
      have h2 := ee1 e0 2 1
      rw [hz 1 (by omega)] at h1
      rw [hz 2 (by omega)] at h2
      refine canc e0 (?_ : G 0 0 * m3 G 2 2 = G 0 0 * 0)
      rw [syl3, ← h1, ← h2]; grind
    | 1, 4, _, _, hd, hz =>
      have e0 : G 0 0 ≠ 0 := fun z => hd 1 (by omega) (by rw [de1]; exact z)
      have h1 := ee1 e0 1 1
      have h2 := ee1 e0 2 1
      have h3 := ee1 e0 3 1
      rw [hz 1 (by omega)] at h1
      rw [hz 2 (by omega)] at h2
      rw [hz 3 (by omega)] at h3
      show m4 G 3 3 = 0
      have q1 : G 1 1 = G 1 0 * G 1 0 / G 0 0 := canc e0 (by rw [mdc e0]; grind)
      have q2 : G 2 1 = G 2 0 * G 1 0 / G 0 0 := canc e0 (by rw [mdc e0]; grind)
      have q3 : G 3 1 = G 3 0 * G 1 0 / G 0 0 := canc e0 (by rw [mdc e0]; grind)
      have : ∃ c, G 1 0 = c * G 0 0 := ⟨G 1 0 / G 0 0, (Rat.div_mul_cancel e0).symm⟩
      obtain ⟨c, hc⟩ := this
      have r1 : G 1 1 = c * G 1 0 := by rw [q1]; refine canc e0 ?_; rw [mdc e0, hc]; grind
      have r2 : G 2 1 = c * G 2 0 := by rw [q2]; refine canc e0 ?_; rw [mdc e0, hc]; grind
      have r3 : G 3 1 = c * G 3 0 := by rw [q3]; refine canc e0 ?_; rw [mdc e0, hc]; grind
      unfold m4
      rw [r1, r2, r3, hc]; grind
    | 2, 3, _, _, hd, hz =>
      show m3 G 2 2 = 0
      rw [← ee2 (hd 1 (by omega)) (hd 2 (by omega)), hz 2 (by omega)]; grind
    | 2, 4, _, _, hd, hz =>
      have e2 := de2 (hd 1 (by omega))
      refine canc (hd 2 (by omega)) (?_ : de G 2 * m4 G 3 3 = de G 2 * 0)
      have h2 := ee2 (hd 1 (by omega)) (hd 2 (by omega)) 2 2
      have h3 := ee2 (hd 1 (by omega)) (hd 2 (by omega)) 3 2
      rw [hz 2 (by omega)] at h2
      rw [hz 3 (by omega)] at h3
      rw [e2, syl, ← h2, ← h3]; grind
    | 3, 4, _, _, hd, hz =>
      show m4 G 3 3 = 0
      rw [← ee3 (hd 1 (by omega)) (hd 2 (by omega)) (hd 3 (by omega)), hz 3 (by omega)]; grind
    | k + 4, n, hm, h4, _, _ => omega
theorem rat_int0 {z : Int} (h : (z : Rat) = 0) : z = 0 := int_inj (by rw [h]; rfl)
/-- the table squared out is the table's number -/
theorem vol_gd {w : Nat} {rows : Tb} (W : Wd w rows) (h4 : rows.length ≤ 4) : (vol rows : Rat) = gd (Gr rows) rows.length := by
  by_cases h : vol rows = 0
  · rw [h]
    by_cases g : gd (Gr rows) rows.length = 0
    · rw [g]; rfl
    · exact absurd h ((vol_nz h4).mpr (gd_nz W h4 g))
  · rw [vol_de h4 h, de_gd h4 ((vol_nz h4).mp h)]
end Mi

/-! Rows drawn are not nought. -/
set_option maxHeartbeats 4000000
namespace Mi
theorem vol_horner {rows : Tb} {w n h : Nat} (W : Wd w rows) (hn : rows.length = n) (h4 : n ≤ 4) (hh : 0 < h) (e : gd (Gr rows) n = (h : Rat)) : vol rows ≠ 0 := by
  intro z
  have := vol_gd W (by rw [hn]; exact h4)
  rw [hn, e, z] at this
  have : ((0 : Int) : Rat) = ((h : Int) : Rat) := this
  have := int_inj this
  omega
theorem r1_11 (m : Nat) : vol ([[1 + 0 + (m : Int)]] : Tb) ≠ 0 := by
  refine vol_horner (w := 1) (n := 1) (h := (1 + m * (2 + m * 1))) (by intro r hr; simp at hr; rcases hr with rfl <;> rfl) rfl (by decide) (by omega) ?_
  show Gr _ 0 0 = _
  simp only [Gr, List.getD_cons_zero, List.getD_cons_succ, fq, List.map_cons, List.map_nil, dq]
  have em : ((m : Int) : Rat) = (m : Rat) := rfl
  grind
theorem r1_12 (m : Nat) : vol ([[1 + 0 + (m : Int), 0]] : Tb) ≠ 0 := by
  refine vol_horner (w := 2) (n := 1) (h := (1 + m * (2 + m * 1))) (by intro r hr; simp at hr; rcases hr with rfl <;> rfl) rfl (by decide) (by omega) ?_
  show Gr _ 0 0 = _
  simp only [Gr, List.getD_cons_zero, List.getD_cons_succ, fq, List.map_cons, List.map_nil, dq]
  have em : ((m : Int) : Rat) = (m : Rat) := rfl
  grind
theorem r1_13 (m : Nat) : vol ([[1 + 0 + (m : Int), 0, 0]] : Tb) ≠ 0 := by
  refine vol_horner (w := 3) (n := 1) (h := (1 + m * (2 + m * 1))) (by intro r hr; simp at hr; rcases hr with rfl <;> rfl) rfl (by decide) (by omega) ?_
  show Gr _ 0 0 = _
  simp only [Gr, List.getD_cons_zero, List.getD_cons_succ, fq, List.map_cons, List.map_nil, dq]
  have em : ((m : Int) : Rat) = (m : Rat) := rfl
  grind
theorem r1_14 (m : Nat) : vol ([[1 + 0 + (m : Int), 0, 0, 0]] : Tb) ≠ 0 := by
  refine vol_horner (w := 4) (n := 1) (h := (1 + m * (2 + m * 1))) (by intro r hr; simp at hr; rcases hr with rfl <;> rfl) rfl (by decide) (by omega) ?_
  show Gr _ 0 0 = _
  simp only [Gr, List.getD_cons_zero, List.getD_cons_succ, fq, List.map_cons, List.map_nil, dq]
  have em : ((m : Int) : Rat) = (m : Rat) := rfl
  grind
theorem r1_15 (m : Nat) : vol ([[1 + 0 + (m : Int), 0, 0, 0, 0]] : Tb) ≠ 0 := by
  refine vol_horner (w := 5) (n := 1) (h := (1 + m * (2 + m * 1))) (by intro r hr; simp at hr; rcases hr with rfl <;> rfl) rfl (by decide) (by omega) ?_
  show Gr _ 0 0 = _
  simp only [Gr, List.getD_cons_zero, List.getD_cons_succ, fq, List.map_cons, List.map_nil, dq]
  have em : ((m : Int) : Rat) = (m : Rat) := rfl
  grind
theorem r1_22 (m : Nat) : vol ([[1 + 0 + (m : Int), 0], [0, 1 + 1 + (m : Int)]] : Tb) ≠ 0 := by
  refine vol_horner (w := 2) (n := 2) (h := (4 + m * (12 + m * (13 + m * (6 + m * 1))))) (by intro r hr; simp at hr; rcases hr with rfl | rfl <;> rfl) rfl (by decide) (by omega) ?_
  show _ - _ = _
  simp only [Gr, List.getD_cons_zero, List.getD_cons_succ, fq, List.map_cons, List.map_nil, dq]
  have em : ((m : Int) : Rat) = (m : Rat) := rfl
  grind
theorem r1_23 (m : Nat) : vol ([[1 + 0 + (m : Int), 0, 0], [0, 1 + 1 + (m : Int), 1]] : Tb) ≠ 0 := by
  refine vol_horner (w := 3) (n := 2) (h := (5 + m * (14 + m * (14 + m * (6 + m * 1))))) (by intro r hr; simp at hr; rcases hr with rfl | rfl <;> rfl) rfl (by decide) (by omega) ?_
  show _ - _ = _
  simp only [Gr, List.getD_cons_zero, List.getD_cons_succ, fq, List.map_cons, List.map_nil, dq]
  have em : ((m : Int) : Rat) = (m : Rat) := rfl
  grind
theorem r1_24 (m : Nat) : vol ([[1 + 0 + (m : Int), 0, 0, 0], [0, 1 + 1 + (m : Int), 1, 1]] : Tb) ≠ 0 := by
  refine vol_horner (w := 4) (n := 2) (h := (6 + m * (16 + m * (15 + m * (6 + m * 1))))) (by intro r hr; simp at hr; rcases hr with rfl | rfl <;> rfl) rfl (by decide) (by omega) ?_
  show _ - _ = _
  simp only [Gr, List.getD_cons_zero, List.getD_cons_succ, fq, List.map_cons, List.map_nil, dq]
  have em : ((m : Int) : Rat) = (m : Rat) := rfl
  grind
theorem r1_25 (m : Nat) : vol ([[1 + 0 + (m : Int), 0, 0, 0, 0], [0, 1 + 1 + (m : Int), 1, 1, 1]] : Tb) ≠ 0 := by
  refine vol_horner (w := 5) (n := 2) (h := (7 + m * (18 + m * (16 + m * (6 + m * 1))))) (by intro r hr; simp at hr; rcases hr with rfl | rfl <;> rfl) rfl (by decide) (by omega) ?_
  show _ - _ = _
  simp only [Gr, List.getD_cons_zero, List.getD_cons_succ, fq, List.map_cons, List.map_nil, dq]
  have em : ((m : Int) : Rat) = (m : Rat) := rfl
  grind
theorem r1_33 (m : Nat) : vol ([[1 + 0 + (m : Int), 0, 0], [0, 1 + 1 + (m : Int), 1], [0, 0, 1 + 2 + (m : Int)]] : Tb) ≠ 0 := by
  refine vol_horner (w := 3) (n := 3) (h := (36 + m * (132 + m * (193 + m * (144 + m * (58 + m * (12 + m * 1))))))) (by intro r hr; simp at hr; rcases hr with rfl | rfl | rfl <;> rfl) rfl (by decide) (by omega) ?_
  show m3 _ 2 2 = _; unfold m3
  simp only [Gr, List.getD_cons_zero, List.getD_cons_succ, fq, List.map_cons, List.map_nil, dq]
  have em : ((m : Int) : Rat) = (m : Rat) := rfl
  grind
theorem r1_34 (m : Nat) : vol ([[1 + 0 + (m : Int), 0, 0, 0], [0, 1 + 1 + (m : Int), 1, 1], [0, 0, 1 + 2 + (m : Int), 2]] : Tb) ≠ 0 := by
  refine vol_horner (w := 4) (n := 3) (h := (53 + m * (184 + m * (251 + m * (172 + m * (63 + m * (12 + m * 1))))))) (by intro r hr; simp at hr; rcases hr with rfl | rfl | rfl <;> rfl) rfl (by decide) (by omega) ?_
  show m3 _ 2 2 = _; unfold m3
  simp only [Gr, List.getD_cons_zero, List.getD_cons_succ, fq, List.map_cons, List.map_nil, dq]
  have em : ((m : Int) : Rat) = (m : Rat) := rfl
  grind
theorem r1_35 (m : Nat) : vol ([[1 + 0 + (m : Int), 0, 0, 0, 0], [0, 1 + 1 + (m : Int), 1, 1, 1], [0, 0, 1 + 2 + (m : Int), 2, 2]] : Tb) ≠ 0 := by
  refine vol_horner (w := 5) (n := 3) (h := (70 + m * (236 + m * (309 + m * (200 + m * (68 + m * (12 + m * 1))))))) (by intro r hr; simp at hr; rcases hr with rfl | rfl | rfl <;> rfl) rfl (by decide) (by omega) ?_
  show m3 _ 2 2 = _; unfold m3
  simp only [Gr, List.getD_cons_zero, List.getD_cons_succ, fq, List.map_cons, List.map_nil, dq]
  have em : ((m : Int) : Rat) = (m : Rat) := rfl
  grind
theorem r1_44 (m : Nat) : vol ([[1 + 0 + (m : Int), 0, 0, 0], [0, 1 + 1 + (m : Int), 1, 1], [0, 0, 1 + 2 + (m : Int), 2], [0, 0, 0, 1 + 3 + (m : Int)]] : Tb) ≠ 0 := by
  refine vol_horner (w := 4) (n := 4) (h := (576 + m * (2400 + m * (4180 + m * (3980 + m * (2273 + m * (800 + m * (170 + m * (20 + m * 1))))))))) (by intro r hr; simp at hr; rcases hr with rfl | rfl | rfl | rfl <;> rfl) rfl (by decide) (by omega) ?_
  show m4 _ 3 3 = _; unfold m4
  simp only [Gr, List.getD_cons_zero, List.getD_cons_succ, fq, List.map_cons, List.map_nil, dq]
  have em : ((m : Int) : Rat) = (m : Rat) := rfl
  grind
theorem r1_45 (m : Nat) : vol ([[1 + 0 + (m : Int), 0, 0, 0, 0], [0, 1 + 1 + (m : Int), 1, 1, 1], [0, 0, 1 + 2 + (m : Int), 2, 2], [0, 0, 0, 1 + 3 + (m : Int), 3]] : Tb) ≠ 0 := by
  refine vol_horner (w := 5) (n := 4) (h := (917 + m * (3674 + m * (6096 + m * (5472 + m * (2914 + m * (946 + m * (184 + m * (20 + m * 1))))))))) (by intro r hr; simp at hr; rcases hr with rfl | rfl | rfl | rfl <;> rfl) rfl (by decide) (by omega) ?_
  show m4 _ 3 3 = _; unfold m4
  simp only [Gr, List.getD_cons_zero, List.getD_cons_succ, fq, List.map_cons, List.map_nil, dq]
  have em : ((m : Int) : Rat) = (m : Rat) := rfl
  grind

/-! ### the same number under skewing -/
/-- what the products become when c times row j comes to row i -/
def opG (G : Nat → Nat → Rat) (i j : Nat) (c : Rat) (a b : Nat) : Rat :=
  G a b + (if a = i then c * G j b else 0) + (if b = i then c * G a j else 0) + (if a = i ∧ b = i then c * c * G j j else 0)
theorem gd_op {G : Nat → Nat → Rat} (hc : ∀ a b, G a b = G b a) (c : Rat) : ∀ n i j : Nat, n ≤ 4 → i < n → j < n → i ≠ j → gd (opG G i j c) n = gd G n := by
  intro n i j h4 hi hj hij
  have c01 := hc 0 1
  have c02 := hc 0 2
  have c03 := hc 0 3
  have c12 := hc 1 2
  have c13 := hc 1 3
  have c23 := hc 2 3
  match n, i, j, h4, hi, hj, hij with
  | 2, 0, 1, _, _, _, _ => show _ - _ = _ - _; simp [opG]; grind
  | 2, 1, 0, _, _, _, _ => show _ - _ = _ - _; simp [opG]; grind
  | 3, 0, 1, _, _, _, _ => show m3 _ 2 2 = m3 _ 2 2; unfold m3; simp [opG]; grind
  | 3, 0, 2, _, _, _, _ => show m3 _ 2 2 = m3 _ 2 2; unfold m3; simp [opG]; grind
  | 3, 1, 0, _, _, _, _ => show m3 _ 2 2 = m3 _ 2 2; unfold m3; simp [opG]; grind
  | 3, 1, 2, _, _, _, _ => show m3 _ 2 2 = m3 _ 2 2; unfold m3; simp [opG]; grind
  | 3, 2, 0, _, _, _, _ => show m3 _ 2 2 = m3 _ 2 2; unfold m3; simp [opG]; grind
  | 3, 2, 1, _, _, _, _ => show m3 _ 2 2 = m3 _ 2 2; unfold m3; simp [opG]; grind
  | 4, 0, 1, _, _, _, _ => show m4 _ 3 3 = m4 _ 3 3; unfold m4; simp [opG]; grind
  | 4, 0, 2, _, _, _, _ => show m4 _ 3 3 = m4 _ 3 3; unfold m4; simp [opG]; grind
  | 4, 0, 3, _, _, _, _ => show m4 _ 3 3 = m4 _ 3 3; unfold m4; simp [opG]; grind
  | 4, 1, 0, _, _, _, _ => show m4 _ 3 3 = m4 _ 3 3; unfold m4; simp [opG]; grind
  | 4, 1, 2, _, _, _, _ => show m4 _ 3 3 = m4 _ 3 3; unfold m4; simp [opG]; grind
  | 4, 1, 3, _, _, _, _ => show m4 _ 3 3 = m4 _ 3 3; unfold m4; simp [opG]; grind
  | 4, 2, 0, _, _, _, _ => show m4 _ 3 3 = m4 _ 3 3; unfold m4; simp [opG]; grind
  | 4, 2, 1, _, _, _, _ => show m4 _ 3 3 = m4 _ 3 3; unfold m4; simp [opG]; grind
  | 4, 2, 3, _, _, _, _ => show m4 _ 3 3 = m4 _ 3 3; unfold m4; simp [opG]; grind
  | 4, 3, 0, _, _, _, _ => show m4 _ 3 3 = m4 _ 3 3; unfold m4; simp [opG]; grind
  | 4, 3, 1, _, _, _, _ => show m4 _ 3 3 = m4 _ 3 3; unfold m4; simp [opG]; grind
  | 4, 3, 2, _, _, _, _ => show m4 _ 3 3 = m4 _ 3 3; unfold m4; simp [opG]; grind
  | 1, i, j, _, hi, hj, hij => omega
  | 2, 1, j + 1, _, hi, hj, hij => omega
  | 3, 2, j + 2, _, hi, hj, hij => omega
  | 4, 3, j + 3, _, hi, hj, hij => omega
theorem fq_zip (c : Int) : ∀ x y : List Int, fq ((x.zip y).map fun p => p.1 + c * p.2) = ax (c : Rat) (fq x) (fq y)
  | [], _ => by simp [fq, ax]
  | _ :: _, [] => by simp [fq, ax]
  | a :: x, b :: y => by
    have ih := fq_zip c x y
    show ((a + c * b : Int) : Rat) :: fq ((x.zip y).map fun p => p.1 + c * p.2) = ((a : Rat) + (c : Rat) * (b : Rat)) :: ax (c : Rat) (fq x) (fq y)
    rw [ih]
    congr 1
    grind
theorem getD_set {rows : Tb} {i : Nat} {r : List Int} (hi : i < rows.length) (a : Nat) : (rows.set i r).getD a [] = if a = i then r else rows.getD a [] := by
  by_cases e : a = i
  · subst e
    rw [if_pos rfl, List.getD_eq_getElem?_getD, List.getElem?_set_self hi]
    rfl
  · rw [if_neg e, List.getD_eq_getElem?_getD, List.getElem?_set_ne (Ne.symm e), ← List.getD_eq_getElem?_getD]
theorem gr_op (v : Nat → List Rat) {i j : Nat} (c : Rat) (hl : (v i).length = (v j).length) (a b : Nat) :
    dq (if a = i then ax c (v i) (v j) else v a) (if b = i then ax c (v i) (v j) else v b) = opG (fun x y => dq (v x) (v y)) i j c a b := by
  unfold opG
  by_cases ha : a = i
  · subst ha
    by_cases hb : b = a
    · subst hb
      simp only [if_true, and_self]
      rw [dq_ax _ _ _ _ hl, dq_ax_r _ _ _ _ hl, dq_ax_r _ _ _ _ hl]
      grind
    · simp only [if_true, hb, if_false, and_false]
      rw [dq_ax _ _ _ _ hl]
      grind
  · by_cases hb : b = i
    · subst hb
      simp only [if_true, ha, if_false, false_and]
      rw [dq_ax_r _ _ _ _ hl]
      grind
    · simp only [ha, hb, if_false, false_and]
      grind
theorem Gr_op {w : Nat} {rows : Tb} (W : Wd w rows) {i j : Nat} (hi : i < rows.length) (hj : j < rows.length) (hij : i ≠ j) (c : Int) (a b : Nat) :
    Gr (rows.set i (((rows.getD i []).zip (rows.getD j [])).map fun p => p.1 + c * p.2)) a b = opG (Gr rows) i j (c : Rat) a b := by
  have h := gr_op (fun k => fq (rows.getD k [])) (i := i) (j := j) (c : Rat) (by rw [fq_len, fq_len, W.at hi, W.at hj]) a b
  refine Eq.trans ?_ h
  show dq (fq ((rows.set i _).getD a [])) (fq ((rows.set i _).getD b [])) = _
  rw [getD_set hi, getD_set hi]
  have e : ∀ x, fq (if x = i then (((rows.getD i []).zip (rows.getD j [])).map fun p => p.1 + c * p.2) else rows.getD x []) = if x = i then ax (c : Rat) (fq (rows.getD i [])) (fq (rows.getD j [])) else fq (rows.getD x []) := fun x => by
    by_cases hx : x = i
    · rw [if_pos hx, if_pos hx, fq_zip]
    · rw [if_neg hx, if_neg hx]
  rw [e, e]
theorem Wd.set {w i : Nat} {rows : Tb} {r : List Int} (W : Wd w rows) (h : r.length = w) : Wd w (rows.set i r) := fun q hq => by
  rcases List.mem_or_eq_of_mem_set hq with z | z
  · exact W q z
  · rw [z]; exact h
/-- the number of the table stays when one row comes to another so often -/
theorem vol_op {w : Nat} {rows : Tb} (W : Wd w rows) (h4 : rows.length ≤ 4) {i j : Nat} (hi : i < rows.length) (hj : j < rows.length) (hij : i ≠ j) (c : Int) :
    vol (rows.set i (((rows.getD i []).zip (rows.getD j [])).map fun p => p.1 + c * p.2)) = vol rows := by
  have W' : Wd w (rows.set i (((rows.getD i []).zip (rows.getD j [])).map fun p => p.1 + c * p.2)) := W.set (by rw [List.length_map, List.length_zip, W.at hi, W.at hj, Nat.min_self])
  have h1 := vol_gd W' (by rw [List.length_set]; exact h4)
  have h2 := vol_gd W h4
  rw [List.length_set, show Gr (rows.set i (((rows.getD i []).zip (rows.getD j [])).map fun p => p.1 + c * p.2)) = opG (Gr rows) i j (c : Rat) from funext fun a => funext fun b => Gr_op W hi hj hij c a b,
    gd_op (Gr_comm rows) (c : Rat) _ i j h4 hi hj hij, ← h2] at h1
  exact int_inj h1
theorem skew1_vol {n w : Nat} {rows t : Tb} {nu x : Int} (hl : rows.length = n) (hn : 0 < n) (h4 : n ≤ 4) (h : Rs n w t) : vol (skew1 rows nu t x) = vol t := by
  unfold skew1
  simp only
  have hl0 : (0 : Int) < (rows.length : Int) := by omega
  have ho1 := Int.emod_lt_of_pos (drawn nu (60 + x)) hl0
  have ho0 := Int.emod_nonneg (drawn nu (60 + x)) (show (rows.length : Int) ≠ 0 by omega)
  have hq1 := Int.emod_lt_of_pos (drawn nu (60 + x) / 4) hl0
  have hq0 := Int.emod_nonneg (drawn nu (60 + x) / 4) (show (rows.length : Int) ≠ 0 by omega)
  generalize drawn nu (60 + x) % (rows.length : Int) = a at *
  generalize drawn nu (60 + x) / 4 % (rows.length : Int) = b at *
  split
  · split
    · have := h.len
      exact vol_op h.wid (by omega) (by omega) (by omega) (by omega) _
    · rfl
  · rfl
theorem skewed_vol {n w : Nat} {rows : Tb} {nu : Int} (hn : 0 < n) (h4 : n ≤ 4) (h : Rs n w rows) : vol (skewed rows nu) = vol rows := by
  unfold skewed
  have key : ∀ (l : List Int) (t : Tb), Rs n w t → vol (l.foldl (skew1 rows nu) t) = vol t := by
    intro l
    induction l with
    | nil => exact fun t ht => rfl
    | cons x r ih => exact fun t ht => (ih _ (skew1_rs h.len hn ht)).trans (skew1_vol h.len hn h4 ht)
  exact key _ _ h
/-! ### rows drawn -/
theorem highM_ok (n : Int) : 2 ≤ highM n ∧ highM n ≤ 300 := by
  unfold highM
  have h0 := Int.emod_nonneg (n / 24) (show (4 : Int) ≠ 0 by decide)
  have h1 := Int.emod_lt_of_pos (n / 24) (show (0 : Int) < 4 by decide)
  generalize n / 24 % 4 = z at *
  rcases (show z = 0 ∨ z = 1 ∨ z = 2 ∨ z = 3 by omega) with h | h | h | h <;> subst h <;> decide
theorem rowM_ok {n wide high : Int} (h : 0 ≤ high) (h2 : high ≤ 1000) : (rowM n wide high).length = wide.toNat ∧ ∀ x ∈ rowM n wide high, x.natAbs ≤ high.toNat := by
  unfold rowM
  refine ⟨by rw [List.length_map, rgI_len], fun x hx => ?_⟩
  obtain ⟨k, _, rfl⟩ := List.mem_map.mp hx
  have h0 := Int.emod_nonneg (drawn n k / 4) (show 2 * high + 1 ≠ 0 by omega)
  have h1 := Int.emod_lt_of_pos (drawn n k / 4) (show 0 < 2 * high + 1 by omega)
  generalize drawn n k / 4 % (2 * high + 1) = z at *
  omega
theorem rowK_ok {n wide k : Int} (hk : 0 ≤ k) (hkw : k < wide) : (rowK n wide (highM n) k).length = wide.toNat ∧ ∀ x ∈ rowK n wide (highM n) k, x.natAbs ≤ 1000 := by
  have hh := highM_ok n
  have hr := rowM_ok (n := drawn n k) (wide := wide) (high := highM n) (by omega) (by omega)
  unfold rowK
  simp only
  have hd1 := Int.emod_lt_of_pos (drawn n k) (show (0 : Int) < highM n by omega)
  have hd0 := Int.emod_nonneg (drawn n k) (show highM n ≠ 0 by omega)
  split
  · refine ⟨?_, fun x hx => ?_⟩
    · rw [List.length_append, List.length_append, List.length_take, hr.1, List.length_replicate]
      simp only [List.length_singleton]
      omega
    · rcases List.mem_append.mp hx with hx | hx
      · rcases List.mem_append.mp hx with hx | hx
        · have := hr.2 x (List.mem_of_mem_take hx); omega
        · rw [List.mem_singleton.mp hx]
          generalize drawn n k % highM n = z at *
          omega
      · rw [(List.mem_replicate.mp hx).2]; decide
  · exact ⟨hr.1, fun x hx => by have := hr.2 x hx; omega⟩
theorem rows0_ok {n many wide : Int} (h1 : 0 < many) (h2 : many ≤ wide) : Rs many.toNat wide.toNat (rows0 n many wide (highM n)) := by
  unfold rows0
  refine ⟨by rw [List.length_map, rgI_len], fun r hr => ?_, fun r hr => ?_⟩
  · obtain ⟨k, hk, rfl⟩ := List.mem_map.mp hr
    obtain ⟨i, hi⟩ := List.mem_iff_getElem?.mp hk
    have := rgI_get hi
    exact (rowK_ok (by omega) (by omega)).1
  · obtain ⟨k, hk, rfl⟩ := List.mem_map.mp hr
    obtain ⟨i, hi⟩ := List.mem_iff_getElem?.mp hk
    have := rgI_get hi
    exact (rowK_ok (by omega) (by omega)).2
theorem rows1_ok {n many wide high : Int} (h1 : 0 < many) (h2 : many ≤ wide) (h4 : many ≤ 4) (h5 : wide ≤ 5) (hh : 2 ≤ high) (hh2 : high ≤ 300) : Rs many.toNat wide.toNat (rows1 n many wide high) ∧ vol (rows1 n many wide high) ≠ 0 := by
  have hd1 := Int.emod_lt_of_pos n (show (0 : Int) < high by omega)
  have hd0 := Int.emod_nonneg n (show high ≠ 0 by omega)
  unfold rows1
  constructor
  · refine ⟨by rw [List.length_map, rgI_len], fun r hr => ?_, fun r hr x hx => ?_⟩
    · obtain ⟨k, hk, rfl⟩ := List.mem_map.mp hr
      obtain ⟨i, hi⟩ := List.mem_iff_getElem?.mp hk
      have := rgI_get hi
      rw [List.length_append, List.length_append, List.length_replicate, List.length_replicate]
      simp only [List.length_singleton]
      omega
    · obtain ⟨k, hk, rfl⟩ := List.mem_map.mp hr
      obtain ⟨i, hi⟩ := List.mem_iff_getElem?.mp hk
      have := rgI_get hi
      rcases List.mem_append.mp hx with hx | hx
      · rcases List.mem_append.mp hx with hx | hx
        · rw [(List.mem_replicate.mp hx).2]; decide
        · rw [List.mem_singleton.mp hx]
          generalize n % high = z at *
          omega
      · rw [(List.mem_replicate.mp hx).2]; omega
  · obtain ⟨m, hm⟩ := Int.eq_ofNat_of_zero_le hd0
    rw [hm]
    clear hm hd0 hd1
    rcases (show many = 1 ∨ many = 2 ∨ many = 3 ∨ many = 4 by omega) with h | h | h | h <;> subst h <;>
    rcases (show wide = 1 ∨ wide = 2 ∨ wide = 3 ∨ wide = 4 ∨ wide = 5 by omega) with h | h | h | h | h <;> subst h <;> try omega
    · exact r1_11 m
    · exact r1_12 m
    · exact r1_13 m
    · exact r1_14 m
    · exact r1_15 m
    · exact r1_22 m
    · exact r1_23 m
    · exact r1_24 m
    · exact r1_25 m
    · exact r1_33 m
    · exact r1_34 m
    · exact r1_35 m
    · exact r1_44 m
    · exact r1_45 m
/-- what is asked of the rows that a law draws -/
structure Good (rows : Tb) : Prop where
  n0 : 0 < rows.length
  n4 : rows.length ≤ 4
  w : ∃ w, 0 < w ∧ w ≤ 5 ∧ Rs rows.length w rows
  vol : vol rows ≠ 0
theorem rowsM_good {n most : Int} (hn : 0 ≤ n) (hm : 1 ≤ most) (h4 : most ≤ 4) : Good (rowsM n most) := by
  unfold rowsM
  simp only
  have a0 := Int.emod_nonneg n (show most ≠ 0 by omega)
  have a1 := Int.emod_lt_of_pos n (show 0 < most by omega)
  generalize n % most = m at *
  have b0 := Int.emod_nonneg (n / 4) (show 6 - (1 + m) ≠ 0 by omega)
  have b1 := Int.emod_lt_of_pos (n / 4) (show 0 < 6 - (1 + m) by omega)
  generalize n / 4 % (6 - (1 + m)) = v at *
  have hh := highM_ok n
  have R : ∃ r, r = (if vol (rows0 n (1 + m) (1 + m + v) (highM n)) = 0 then rows1 n (1 + m) (1 + m + v) (highM n) else rows0 n (1 + m) (1 + m + v) (highM n)) ∧ Rs (1 + m).toNat (1 + m + v).toNat r ∧ vol r ≠ 0 := by
    split
    · exact ⟨_, rfl, rows1_ok (by omega) (by omega) (by omega) (by omega) hh.1 hh.2⟩
    · rename_i h
      exact ⟨_, rfl, rows0_ok (by omega) (by omega), h⟩
  obtain ⟨r, hr, h1, h2⟩ := R
  rw [← hr]
  have hs := skewed_rs (nu := n / 192) (show 0 < (1 + m).toNat by omega) h1
  have hv := skewed_vol (nu := n / 192) (show 0 < (1 + m).toNat by omega) (by omega) h1
  refine ⟨by rw [hs.len]; omega, by rw [hs.len]; omega, ⟨(1 + m + v).toNat, by omega, by omega, by rw [hs.len]; exact hs⟩, by rw [hv]; exact h2⟩
end Mi

/-! Rows made, place by place. -/
namespace Mi
def madeAt (rows : Tb) (ws : List Int) (k : Int) : Int := ((ws.zip rows).map fun p => p.1 * p.2.getD k.toNat 0).sum
theorem addw (c : Int) {x y : List Int} (h : x.length = y.length) (k : Nat) (hk : k < x.length) : ((x.zip y).map fun q => q.1 + c * q.2).getD k 0 = x.getD k 0 + c * y.getD k 0 := by
  have hz : k < (x.zip y).length := by rw [List.length_zip, ← h, Nat.min_self]; exact hk
  have hy : k < y.length := by omega
  rw [List.getD_eq_getElem?_getD, List.getElem?_map, List.getElem?_eq_getElem hz, List.getElem_zip, List.getD_eq_getElem?_getD, List.getD_eq_getElem?_getD, List.getElem?_eq_getElem hk, List.getElem?_eq_getElem hy]
  rfl
theorem addw_len (c : Int) {x y : List Int} (h : x.length = y.length) : ((x.zip y).map fun q => q.1 + c * q.2).length = x.length := by rw [List.length_map, List.length_zip, ← h, Nat.min_self]
/-- what weights make of rows, put to what stands -/
def madeF (l : List (Int × List Int)) (f : List Int) : List Int := l.foldl (fun f p => (f.zip p.2).map fun q => q.1 + p.1 * q.2) f
theorem madeF_at {w : Nat} : ∀ (l : List (Int × List Int)) (f : List Int), (∀ p ∈ l, p.2.length = w) → f.length = w → (madeF l f).length = w ∧ ∀ k, k < w → (madeF l f).getD k 0 = f.getD k 0 + (l.map fun p => p.1 * p.2.getD k 0).sum
  | [], f, _, h => ⟨h, fun k hk => by show f.getD k 0 = f.getD k 0 + 0; omega⟩
  | p :: l, f, hl, h => by
    have hp := hl p List.mem_cons_self
    have hf : ((f.zip p.2).map fun q => q.1 + p.1 * q.2).length = w := by rw [addw_len _ (h.trans hp.symm), h]
    obtain ⟨h1, h2⟩ := madeF_at l ((f.zip p.2).map fun q => q.1 + p.1 * q.2) (fun q hq => hl q (List.mem_cons_of_mem _ hq)) hf
    refine ⟨h1, fun k hk => ?_⟩
    show (madeF l _).getD k 0 = _
    rw [h2 k hk, addw _ (h.trans hp.symm) k (by omega), List.map_cons, List.sum_cons]
    omega
theorem list_ext {x y : List Int} (h : x.length = y.length) (e : ∀ k, k < x.length → x.getD k 0 = y.getD k 0) : x = y := by
  refine List.ext_getElem h fun k h1 h2 => ?_
  have := e k h1
  rw [List.getD_eq_getElem?_getD, List.getD_eq_getElem?_getD, List.getElem?_eq_getElem h1, List.getElem?_eq_getElem h2] at this
  exact this
theorem zip_wd {w : Nat} {rows : Tb} {ws : List Int} (W : Wd w rows) : ∀ p ∈ ws.zip rows, p.2.length = w := fun p hp => W _ (List.of_mem_zip hp).2
theorem madeM_len {w : Nat} {rows : Tb} {ws : List Int} (W : Wd w rows) (h0 : 0 < rows.length) : (madeM rows ws).length = w := by
  have := (madeF_at (ws.zip rows) (List.replicate (rows.getD 0 []).length 0) (zip_wd W) (by rw [List.length_replicate, W.at h0])).1
  exact this
theorem madeM_get {w : Nat} {rows : Tb} {ws : List Int} (W : Wd w rows) (h0 : 0 < rows.length) (k : Nat) (hk : k < w) : (madeM rows ws).getD k 0 = ((ws.zip rows).map fun p => p.1 * p.2.getD k 0).sum := by
  have := (madeF_at (ws.zip rows) (List.replicate (rows.getD 0 []).length 0) (zip_wd W) (by rw [List.length_replicate, W.at h0])).2 k hk
  have e : (List.replicate (rows.getD 0 []).length (0 : Int)).getD k 0 = 0 := by
    rw [List.getD_eq_getElem?_getD, List.getElem?_replicate]
    split <;> rfl
  rw [e] at this
  rw [Int.zero_add] at this
  exact this
theorem madeM_at {w : Nat} {rows : Tb} {ws : List Int} (W : Wd w rows) (h0 : 0 < rows.length) (hl : ws.length = rows.length) : madeM rows ws = (rgI 0 w).map (madeAt rows ws) := by
  refine list_ext (by rw [madeM_len W h0, List.length_map, rgI_len]) fun k hk => ?_
  rw [madeM_len W h0] at hk
  rw [madeM_get W h0 k hk, List.getD_eq_getElem?_getD, List.getElem?_map]
  have e : (rgI 0 w)[k]? = some ((0 : Int) + (k : Int)) := by
    unfold rgI
    rw [List.getElem?_map, List.getElem?_range hk]
    rfl
  rw [e]
  show _ = madeAt rows ws (0 + (k : Int))
  unfold madeAt
  rw [show (0 + (k : Int)).toNat = k by omega]
theorem weightsM_len {n m : Int} : (weightsM n m).length = m.toNat := by
  unfold weightsM
  simp only
  rw [List.length_map, rgI_len]
theorem dotI_comm (x y : List Int) : dotI x y = dotI y x := int_inj (by rw [dotI_q, dotI_q, dq_comm])
end Mi

/-! Sizes of fractions. -/
set_option maxHeartbeats 4000000
namespace Mi
/-- small enough to reckon with -/
structure Sz (q : Rat) : Prop where
  n : q.num.natAbs < 2 ^ 4400
  d : q.den < 2 ^ 4400
theorem cast_rat (q : Rat) : q * (q.den : Rat) = (q.num : Rat) := by
  have h : (q.den : Rat) ≠ 0 := fun z => q.den_nz (by
    have : ((q.den : Int) : Rat) = ((0 : Int) : Rat) := z
    have := int_inj this
    omega)
  have e : (q.num : Rat) / (q.den : Rat) = q := by
    have := Rat.num_divInt_den q
    rw [Rat.divInt_eq_div] at this
    exact this
  have e2 : (q.num : Rat) / (q.den : Rat) * (q.den : Rat) = (q.num : Rat) := Rat.div_mul_cancel h
  rw [e] at e2
  exact e2
theorem den_le {q : Rat} {D : Nat} {z : Int} (hD : 0 < D) (h : q * (D : Rat) = (z : Rat)) : q.den ≤ D ∧ q.num.natAbs ≤ z.natAbs := by
  have h1 := cast_rat q
  have h2 : ((q.num * (D : Int) : Int) : Rat) = ((z * (q.den : Int) : Int) : Rat) := by
    have a1 : ((q.num * (D : Int) : Int) : Rat) = (q.num : Rat) * (D : Rat) := by
      have : (((D : Int)) : Rat) = (D : Rat) := rfl
      grind
    have a2 : ((z * (q.den : Int) : Int) : Rat) = (z : Rat) * (q.den : Rat) := by
      have : (((q.den : Int)) : Rat) = (q.den : Rat) := rfl
      grind
    rw [a1, a2, ← h1, ← h]
    grind
  have h3 := int_inj h2
  have h4 : q.num.natAbs * D = z.natAbs * q.den := by
    have := congrArg Int.natAbs h3
    rw [Int.natAbs_mul, Int.natAbs_mul] at this
    exact this
  have hd : q.den ∣ D := by
    have : q.den ∣ q.num.natAbs * D := ⟨z.natAbs, by rw [h4, Nat.mul_comm]⟩
    exact Nat.Coprime.dvd_of_dvd_mul_left (Nat.Coprime.symm q.reduced) this
  refine ⟨Nat.le_of_dvd hD hd, ?_⟩
  obtain ⟨c, hc⟩ := hd
  have hq := q.den_pos
  have hc0 : 0 < c := by
    rcases Nat.eq_zero_or_pos c with e | e
    · rw [e, Nat.mul_zero] at hc; omega
    · exact e
  have h5 : q.num.natAbs * c = z.natAbs := by
    have : q.den * (q.num.natAbs * c) = q.den * z.natAbs := by
      rw [Nat.mul_comm q.den z.natAbs, ← h4, hc, ← Nat.mul_assoc, Nat.mul_comm q.den, Nat.mul_assoc]
    exact Nat.eq_of_mul_eq_mul_left hq this
  rw [← h5]
  exact Nat.le_mul_of_pos_right _ hc0
/-- a fraction over D, above at most N -/
def Ov (D N : Nat) (q : Rat) : Prop := ∃ z : Int, q * (D : Rat) = (z : Rat) ∧ z.natAbs ≤ N
theorem Ov.sz {D N : Nat} {q : Rat} (h : Ov D N q) (hD : 0 < D) (h1 : D < 2 ^ 4400) (h2 : N < 2 ^ 4400) : Sz q := by
  obtain ⟨z, e, hz⟩ := h
  have := den_le hD e
  exact ⟨Nat.lt_of_le_of_lt (Nat.le_trans this.2 hz) h2, Nat.lt_of_le_of_lt this.1 h1⟩
theorem Ov.add {D N M : Nat} {p q : Rat} (h : Ov D N p) (k : Ov D M q) : Ov D (N + M) (p + q) := by
  obtain ⟨y, e, hy⟩ := h
  obtain ⟨z, f, hz⟩ := k
  exact ⟨y + z, by grind, by omega⟩
theorem Ov.neg {D N : Nat} {p : Rat} (h : Ov D N p) : Ov D N (-p) := by
  obtain ⟨y, e, hy⟩ := h
  exact ⟨-y, by grind, by omega⟩
theorem nat_rat (a : Nat) : ((a : Int) : Rat) = (a : Rat) := rfl
theorem mul_rat (a b : Nat) : ((a * b : Nat) : Rat) = (a : Rat) * (b : Rat) := by
  have : (((a * b : Nat) : Int) : Rat) = ((a : Int) : Rat) * ((b : Int) : Rat) := by rw [Int.natCast_mul]; grind
  exact this
theorem Ov.mul {D E N M : Nat} {p q : Rat} (h : Ov D N p) (k : Ov E M q) : Ov (D * E) (N * M) (p * q) := by
  obtain ⟨y, e, hy⟩ := h
  obtain ⟨z, f, hz⟩ := k
  refine ⟨y * z, by rw [mul_rat]; grind, ?_⟩
  rw [Int.natAbs_mul]
  exact Nat.mul_le_mul hy hz
theorem Ov.int (z : Int) : Ov 1 z.natAbs (z : Rat) := ⟨z, by show (z : Rat) * ((1 : Nat) : Rat) = _; have : ((1 : Nat) : Rat) = 1 := rfl; grind, Nat.le_refl _⟩
theorem Ov.mono {D N M : Nat} {p : Rat} (h : Ov D N p) (k : N ≤ M) : Ov D M p := by
  obtain ⟨y, e, hy⟩ := h
  exact ⟨y, e, Nat.le_trans hy k⟩
theorem Ov.zero {D : Nat} : Ov D 0 0 := ⟨0, by have : ((0 : Int) : Rat) = 0 := rfl; grind, Nat.le_refl _⟩
theorem Ov.scale {D E N : Nat} {p : Rat} (h : Ov D N p) : Ov (D * E) (N * E) p := by
  obtain ⟨y, e, hy⟩ := h
  refine ⟨y * (E : Int), ?_, ?_⟩
  · rw [mul_rat]
    have := nat_rat E
    grind
  · rw [Int.natAbs_mul]
    exact Nat.mul_le_mul hy (Nat.le_refl _)
theorem tot_take_ov {D N : Nat} : ∀ (xs : List Rat), (∀ x ∈ xs, Ov D N x) → ∀ k, Ov D (xs.length * N) (tot (xs.take k))
  | [], _, k => by rw [List.take_nil]; exact Ov.zero.mono (Nat.zero_le _)
  | x :: xs, h, 0 => Ov.zero.mono (Nat.zero_le _)
  | x :: xs, h, k + 1 => by
    rw [List.take_succ_cons, tot_cons]
    refine ((h x List.mem_cons_self).add (tot_take_ov xs (fun y hy => h y (List.mem_cons_of_mem _ hy)) k)).mono ?_
    rw [List.length_cons, Nat.succ_mul]
    omega
theorem tot_ov {D N : Nat} (xs : List Rat) (h : ∀ x ∈ xs, Ov D N x) : Ov D (xs.length * N) (tot xs) := by
  have := tot_take_ov xs h xs.length
  rw [List.take_length] at this
  exact this
/-- all over one number of at most d bits, above at most n bits -/
def Cm (d n : Nat) (u : List Rat) : Prop := ∃ D : Nat, 0 < D ∧ D ≤ 2 ^ d ∧ ∀ x ∈ u, Ov D (2 ^ n) x
theorem prod_ov {D N M : Nat} {r : List Int} {u : List Rat} (hr : ∀ x ∈ r, x.natAbs ≤ M) (hu : ∀ x ∈ u, Ov D N x) : ∀ x ∈ ((r.zip u).map fun p => (p.1 : Rat) * p.2), Ov D (M * N) x := fun x hx => by
  obtain ⟨p, hp, rfl⟩ := List.mem_map.mp hx
  have hm := List.of_mem_zip hp
  have := ((Ov.int p.1).mul (hu _ hm.2))
  rw [Nat.one_mul] at this
  exact this.mono (Nat.mul_le_mul (hr _ hm.1) (Nat.le_refl _))
theorem sq_ov {D N : Nat} {u : List Rat} (hu : ∀ x ∈ u, Ov D N x) : ∀ x ∈ (u.map fun p => p * p), Ov (D * D) (N * N) x := fun x hx => by
  obtain ⟨p, hp, rfl⟩ := List.mem_map.mp hx
  exact (hu _ hp).mul (hu _ hp)
theorem along_ov {D N M w : Nat} {r : List Int} {u : List Rat} (hr : ∀ x ∈ r, x.natAbs ≤ M) (hu : ∀ x ∈ u, Ov D N x) (hw : u.length ≤ w) : Ov D (w * (M * N)) (dq (fq r) u) := by
  rw [← along_eq]
  refine (tot_ov _ (prod_ov hr hu)).mono (Nat.mul_le_mul ?_ (Nat.le_refl _))
  rw [List.length_map, List.length_zip]
  omega
theorem square_ov {D N w : Nat} {u : List Rat} (hu : ∀ x ∈ u, Ov D N x) (hw : u.length ≤ w) : Ov (D * D) (w * (N * N)) (dq u u) := by
  rw [← sq_eq]
  refine (tot_ov _ (sq_ov hu)).mono (Nat.mul_le_mul ?_ (Nat.le_refl _))
  rw [List.length_map]
  exact hw
/-- a share: above a times D, below s -/
theorem share_ov {D A S : Nat} {a s : Rat} (hD : 0 < D) (ha : Ov D A a) (hs : Ov (D * D) S s) (h0 : 0 < s) : ∃ E : Nat, 0 < E ∧ E ≤ S ∧ (E : Rat) = s * ((D * D : Nat) : Rat) ∧ Ov E (A * D) (a / s) := by
  obtain ⟨y, e, hy⟩ := ha
  obtain ⟨z, f, hz⟩ := hs
  have hDr : (0 : Rat) < (D : Rat) := by
    have : ((0 : Int) : Rat) < ((D : Int) : Rat) := by exact_mod_cast hD
    exact this
  have hz0 : 0 < z := by
    have h1 : (0 : Rat) < s * ((D * D : Nat) : Rat) := Rat.mul_pos h0 (by rw [mul_rat]; exact Rat.mul_pos hDr hDr)
    rw [f] at h1
    have : ((0 : Int) : Rat) < (z : Rat) := h1
    exact_mod_cast this
  have hzn : ((z.natAbs : Nat) : Rat) = (z : Rat) := by
    rw [← nat_rat, show ((z.natAbs : Nat) : Int) = z by omega]
  refine ⟨z.natAbs, by omega, hz, by rw [hzn, f], y * (D : Int), ?_, ?_⟩
  · have hsn : s ≠ 0 := by grind
    rw [hzn, ← f, mul_rat]
    have e1 : a / s * s = a := Rat.div_mul_cancel hsn
    have e2 : a / s * (s * ((D : Rat) * (D : Rat))) = a * (D : Rat) * (D : Rat) := by grind
    rw [e2, e]
    have := nat_rat D
    grind
  · rw [Int.natAbs_mul]
    exact Nat.mul_le_mul hy (Nat.le_refl _)
end Mi
namespace Mi
/-! ### the fractions' functions, told by what they do to numbers -/
theorem gcd_fmod (a b : Int) : Int.gcd b (a.fmod b) = Int.gcd a b := by
  have h := Int.mul_fdiv_add_fmod a b
  have e : a = a.fmod b + b * a.fdiv b := by omega
  conv => rhs; rw [e, Int.gcd_comm, Int.gcd_add_mul_left_right]
theorem fmod_lt (a : Int) {b : Int} (h : b ≠ 0) : (a.fmod b).natAbs < b.natAbs := by
  by_cases h1 : 0 < b
  · have h2 := Int.fmod_nonneg_of_pos a h1
    have h3 := Int.fmod_lt_of_pos a h1
    omega
  · have e : a.fmod b = -((-a).fmod (-b)) := by
      have := Int.neg_fmod_neg a b
      first
        | (rw [this]; omega)
        | (have h := Int.neg_fmod_neg (-a) (-b); simp at h; omega)
    have h2 := Int.fmod_nonneg_of_pos (-a) (show 0 < -b by omega)
    have h3 := Int.fmod_lt_of_pos (-a) (show 0 < -b by omega)
    omega
/-- a fraction in its least numbers -/
theorem fraction_ok {u l : Int} (h : l ≠ 0) : u.fdiv (if l < 0 then -((Int.gcd u l : Nat) : Int) else ((Int.gcd u l : Nat) : Int)) = ((u : Rat) / (l : Rat)).num ∧ l.fdiv (if l < 0 then -((Int.gcd u l : Nat) : Int) else ((Int.gcd u l : Nat) : Int)) = (((u : Rat) / (l : Rat)).den : Int) := by
  rw [← Rat.divInt_eq_div, Rat.num_divInt, Rat.den_divInt, if_neg h, Int.gcd_comm l u]
  have hg : 0 < Int.gcd u l := Int.gcd_pos_of_ne_zero_right u h
  generalize Int.gcd u l = g at *
  split
  · rename_i hl
    have e1 : ∀ x : Int, x.fdiv (-(g : Int)) = (-x) / (g : Int) := fun x => by
      have := Int.neg_fdiv_neg (-x) (g : Int)
      rw [Int.neg_neg] at this
      rw [this, Int.fdiv_eq_ediv_of_nonneg _ (by omega)]
    rw [e1, e1, Int.sign_eq_neg_one_of_neg hl]
    refine ⟨by congr 1; omega, ?_⟩
    rw [Int.natCast_ediv]
    congr 1
    omega
  · rename_i hl
    have e1 : ∀ x : Int, x.fdiv (g : Int) = x / (g : Int) := fun x => Int.fdiv_eq_ediv_of_nonneg _ (by omega)
    rw [e1, e1, Int.sign_eq_one_of_pos (by omega)]
    refine ⟨by congr 1; omega, ?_⟩
    rw [Int.natCast_ediv]
    congr 1
    omega
theorem den_nz (q : Rat) : (q.den : Rat) ≠ 0 := fun z => by
  have : ((q.den : Int) : Rat) = ((0 : Int) : Rat) := z
  have := int_inj this
  have := q.den_pos
  omega
theorem rat_frac (q : Rat) : (q.num : Rat) / (q.den : Rat) = q := by
  have := Rat.num_divInt_den q
  rw [Rat.divInt_eq_div] at this
  exact this
theorem div_eq {a b c : Rat} (h : b ≠ 0) (e : c * b = a) : a / b = c := by rw [← e]; exact canc h (by rw [mdc h]; grind)
theorem added_eq (p q : Rat) : ((p.num * (q.den : Int) + q.num * (p.den : Int) : Int) : Rat) / (((p.den : Int) * (q.den : Int) : Int) : Rat) = p + q := by
  have hp := den_nz p
  have hq := den_nz q
  have e1 := cast_rat p
  have e2 := cast_rat q
  have n1 := nat_rat p.den
  have n2 := nat_rat q.den
  have c1 : ((p.num * (q.den : Int) + q.num * (p.den : Int) : Int) : Rat) = (p.num : Rat) * (q.den : Rat) + (q.num : Rat) * (p.den : Rat) := by grind
  have c2 : (((p.den : Int) * (q.den : Int) : Int) : Rat) = (p.den : Rat) * (q.den : Rat) := by grind
  rw [c1, c2]
  refine div_eq (fun z => ?_) (by rw [← e1, ← e2]; grind)
  rcases Rat.mul_eq_zero.mp z with z | z
  · exact hp z
  · exact hq z
theorem times_eq (p q : Rat) : ((p.num * q.num : Int) : Rat) / (((p.den : Int) * (q.den : Int) : Int) : Rat) = p * q := by
  have hp := den_nz p
  have hq := den_nz q
  have e1 := cast_rat p
  have e2 := cast_rat q
  have n1 := nat_rat p.den
  have n2 := nat_rat q.den
  have c1 : ((p.num * q.num : Int) : Rat) = (p.num : Rat) * (q.num : Rat) := by grind
  have c2 : (((p.den : Int) * (q.den : Int) : Int) : Rat) = (p.den : Rat) * (q.den : Rat) := by grind
  rw [c1, c2]
  refine div_eq (fun z => ?_) (by rw [← e1, ← e2]; grind)
  rcases Rat.mul_eq_zero.mp z with z | z
  · exact hp z
  · exact hq z
theorem num_nz {q : Rat} (h : q ≠ 0) : q.num ≠ 0 := fun z => h (by have := rat_frac q; rw [z] at this; rw [← this]; have : ((0 : Int) : Rat) = 0 := rfl; grind)
theorem over_eq (p : Rat) {q : Rat} (h : q ≠ 0) : ((p.num * (q.den : Int) : Int) : Rat) / (((p.den : Int) * q.num : Int) : Rat) = p / q := by
  have hp := den_nz p
  have hq := den_nz q
  have e1 := cast_rat p
  have e2 := cast_rat q
  have n1 := nat_rat p.den
  have n2 := nat_rat q.den
  have c1 : ((p.num * (q.den : Int) : Int) : Rat) = (p.num : Rat) * (q.den : Rat) := by grind
  have c2 : (((p.den : Int) * q.num : Int) : Rat) = (p.den : Rat) * (q.num : Rat) := by grind
  rw [c1, c2]
  have e3 : p / q * q = p := Rat.div_mul_cancel h
  refine div_eq (fun z => ?_) (by rw [← e1, ← e2]; grind)
  rcases Rat.mul_eq_zero.mp z with z | z
  · exact hp z
  · exact num_nz h (int_inj (by rw [z]; rfl))
/-- a nearest whole number -/
def near1 (q : Rat) : Int := (2 * q.num + (q.den : Int)) / (2 * (q.den : Int))
end Mi

/-! Sizes of uprights. -/
set_option maxHeartbeats 4000000
namespace Mi
theorem p2 {a b : Nat} (h : a ≤ b) : 2 ^ a ≤ 2 ^ b := Nat.pow_le_pow_right (by decide) h
theorem p2l {a b : Nat} (h : a < b) : 2 ^ a < 2 ^ b := Nat.pow_lt_pow_right (by decide) h
theorem five {n N : Nat} (h : N ≤ 2 ^ n) : 5 * N ≤ 2 ^ (n + 3) := by rw [Nat.pow_add]; omega
theorem Ov.lt {D N d n : Nat} {q : Rat} (h : Ov D N q) (hD : 0 < D) (h1 : D ≤ 2 ^ d) (h2 : N ≤ 2 ^ n) (hd : d < 4400) (hn : n < 4400) : Sz q := h.sz hD (Nat.lt_of_le_of_lt h1 (p2l hd)) (Nat.lt_of_le_of_lt h2 (p2l hn))
theorem pm {a b m n : Nat} (h : a ≤ 2 ^ m) (k : b ≤ 2 ^ n) : a * b ≤ 2 ^ (m + n) := by rw [Nat.pow_add]; exact Nat.mul_le_mul h k
/-- an upright that can be reckoned with -/
structure Uk (u : List Rat) : Prop where
  len : u.length ≤ 5
  cm : Cm 1100 1700 u
/-- a row of whole numbers that can be -/
structure Rk (r : List Int) : Prop where
  bd : ∀ x ∈ r, x.natAbs ≤ 2 ^ 600
theorem Uk.sz {u : List Rat} (h : Uk u) : ∀ x ∈ u, Sz x := fun x hx => by
  obtain ⟨D, h0, h1, h2⟩ := h.cm
  exact (h2 x hx).lt h0 h1 (Nat.le_refl _) (by decide) (by decide)
theorem sz_int {z : Int} (h : z.natAbs ≤ 2 ^ 600) : Sz (z : Rat) := (Ov.int z).lt (by decide) (show 1 ≤ 2 ^ 0 by decide) h (by decide) (by decide)
theorem Uk.al {r : List Int} {u : List Rat} (h : Uk u) (k : Rk r) : (∀ x ∈ ((r.zip u).map fun p => (p.1 : Rat) * p.2), Sz x) ∧ ∀ m, Sz (tot (((r.zip u).map fun p => (p.1 : Rat) * p.2).take m)) := by
  obtain ⟨D, h0, h1, h2⟩ := h.cm
  have hp := prod_ov k.bd h2
  refine ⟨fun x hx => (hp x hx).lt h0 h1 (pm (Nat.le_refl _) (Nat.le_refl _)) (by decide) (by decide), fun m => ?_⟩
  have hl : ((r.zip u).map fun p => (p.1 : Rat) * p.2).length ≤ 5 := by
    have := h.len
    rw [List.length_map, List.length_zip]
    omega
  exact ((tot_take_ov _ hp m).mono (Nat.mul_le_mul hl (Nat.le_refl _))).lt h0 h1 (five (pm (Nat.le_refl _) (Nat.le_refl _))) (by decide) (by decide)
theorem Uk.sq {u : List Rat} (h : Uk u) : (∀ x ∈ (u.map fun p => p * p), Sz x) ∧ ∀ m, Sz (tot ((u.map fun p => p * p).take m)) := by
  obtain ⟨D, h0, h1, h2⟩ := h.cm
  have hp := sq_ov h2
  have hD : 0 < D * D := Nat.mul_pos h0 h0
  refine ⟨fun x hx => (hp x hx).lt hD (pm h1 h1) (pm (Nat.le_refl _) (Nat.le_refl _)) (by decide) (by decide), fun m => ?_⟩
  have hl : (u.map fun p => p * p).length ≤ 5 := by
    rw [List.length_map]
    exact h.len
  exact ((tot_take_ov _ hp m).mono (Nat.mul_le_mul hl (Nat.le_refl _))).lt hD (pm h1 h1) (five (pm (Nat.le_refl _) (Nat.le_refl _))) (by decide) (by decide)
theorem Uk.a {r : List Int} {u : List Rat} (h : Uk u) (k : Rk r) : Sz (dq (fq r) u) := by
  have := (h.al k).2 ((r.zip u).map fun p => (p.1 : Rat) * p.2).length
  rw [List.take_length, along_eq] at this
  exact this
theorem Uk.s {u : List Rat} (h : Uk u) : Sz (dq u u) := by
  have := h.sq.2 (u.map fun p => p * p).length
  rw [List.take_length, sq_eq] at this
  exact this
theorem pos_of_nz {u : List Rat} (h : dq u u ≠ 0) : 0 < dq u u := by
  have := dq_nn u
  grind
theorem Uk.sh {r : List Int} {u : List Rat} (h : Uk u) (k : Rk r) (h0 : dq u u ≠ 0) : Sz (sh r u) := by
  obtain ⟨D, d0, h1, h2⟩ := h.cm
  obtain ⟨E, e0, e1, _, e2⟩ := share_ov d0 (along_ov k.bd h2 h.len) (square_ov h2 h.len) (pos_of_nz h0)
  exact e2.lt e0 (Nat.le_trans e1 (five (pm (Nat.le_refl _) (Nat.le_refl _)))) (pm (five (pm (Nat.le_refl _) (Nat.le_refl _))) h1) (by decide) (by decide)
/-- a share of u, times what stands in u -/
theorem sh_mul {r : List Int} {u : List Rat} {D N M : Nat} (hl : u.length ≤ 5) (d0 : 0 < D) (hu : ∀ x ∈ u, Ov D N x) (hr : ∀ x ∈ r, x.natAbs ≤ M) (h0 : dq u u ≠ 0) : ∃ E : Nat, 0 < E ∧ E ≤ 5 * (N * N) ∧ ∀ y ∈ u, Ov E (5 * (M * N) * N) (sh r u * y) := by
  obtain ⟨E, e0, e1, e2, _⟩ := share_ov d0 (along_ov hr hu hl) (square_ov hu hl) (pos_of_nz h0)
  refine ⟨E, e0, e1, fun y hy => ?_⟩
  obtain ⟨a, ha, ha2⟩ := along_ov hr hu hl
  obtain ⟨b, hb, hb2⟩ := hu y hy
  refine ⟨a * b, ?_, by rw [Int.natAbs_mul]; exact Nat.mul_le_mul ha2 hb2⟩
  rw [e2, mul_rat]
  have e3 : sh r u * dq u u = dq (fq r) u := Rat.div_mul_cancel h0
  have : ((a * b : Int) : Rat) = (a : Rat) * (b : Rat) := by grind
  rw [this, ← ha, ← hb, ← e3]
  grind
theorem Uk.shy {r : List Int} {u : List Rat} (h : Uk u) (k : Rk r) (h0 : dq u u ≠ 0) : ∀ y ∈ u, Sz (-(Mi.sh r u) * y) := fun y hy => by
  obtain ⟨D, d0, h1, h2⟩ := h.cm
  obtain ⟨E, e0, e1, e2⟩ := sh_mul h.len d0 h2 k.bd h0
  have : -(Mi.sh r u) * y = -(Mi.sh r u * y) := by grind
  rw [this]
  exact (e2 y hy).neg.lt e0 (Nat.le_trans e1 (five (pm (Nat.le_refl _) (Nat.le_refl _)))) (pm (five (pm (Nat.le_refl _) (Nat.le_refl _))) (Nat.le_refl _)) (by decide) (by decide)
theorem Sz.neg {q : Rat} (h : Sz q) : Sz (-q) := ⟨by show (-q.num).natAbs < _; rw [Int.natAbs_neg]; exact h.n, h.d⟩
/-! ### how they grow -/
def dB : Nat → Nat
  | 0 => 0
  | 1 => 83
  | 2 => 334
  | _ => 1089
theorem up_step {R j d nj : Nat} {r : List Int} {u here : List Rat} (hl : u.length ≤ 5) (hh : Cm d (R + d + j) here) (hu : Cm d nj u) (hr : ∀ x ∈ r, x.natAbs ≤ 2 ^ R) (h0 : dq u u ≠ 0) : Cm (d + (2 * nj + 3)) (R + (d + (2 * nj + 3)) + (j + 1)) (ax (-(sh r u)) here u) := by
  obtain ⟨D, d0, d1, d2⟩ := hh
  obtain ⟨F, f0, f1, f2⟩ := hu
  obtain ⟨E, e0, e1, e2⟩ := sh_mul hl f0 f2 hr h0
  have e3 : E ≤ 2 ^ (2 * nj + 3) := by
    refine Nat.le_trans e1 (five ?_)
    rw [Nat.two_mul]
    exact pm (Nat.le_refl _) (Nat.le_refl _)
  refine ⟨D * E, Nat.mul_pos d0 e0, pm d1 e3, fun x hx => ?_⟩
  unfold ax at hx
  obtain ⟨p, hp, rfl⟩ := List.mem_map.mp hx
  have hm := List.of_mem_zip hp
  have q1 := (d2 _ hm.1).scale (E := E)
  have q2 := ((e2 _ hm.2).neg).scale (E := D)
  rw [Nat.mul_comm E D] at q2
  have e : p.1 + -(sh r u) * p.2 = p.1 + -(sh r u * p.2) := by grind
  rw [e]
  refine (q1.add q2).mono ?_
  have b1 : 2 ^ (R + d + j) * E ≤ 2 ^ (R + d + j + (2 * nj + 3)) := pm (Nat.le_refl _) e3
  have b2 : 5 * (2 ^ R * 2 ^ nj) * 2 ^ nj * D ≤ 2 ^ (R + nj + 3 + nj + d) := pm (pm (five (pm (Nat.le_refl _) (Nat.le_refl _))) (Nat.le_refl _)) d1
  have b3 : 2 ^ (R + nj + 3 + nj + d) ≤ 2 ^ (R + d + j + (2 * nj + 3)) := p2 (by omega)
  have b4 : 2 ^ (R + (d + (2 * nj + 3)) + (j + 1)) = 2 ^ (R + d + j + (2 * nj + 3)) + 2 ^ (R + d + j + (2 * nj + 3)) := by
    rw [show R + (d + (2 * nj + 3)) + (j + 1) = (R + d + j + (2 * nj + 3)) + 1 by omega, Nat.pow_succ]
    omega
  omega
theorem Cm.mono {d d' n n' : Nat} {u : List Rat} (h : Cm d n u) (hd : d ≤ d') (hn : n ≤ n') : Cm d' n' u := by
  obtain ⟨D, h0, h1, h2⟩ := h
  exact ⟨D, h0, Nat.le_trans h1 (p2 hd), fun x hx => (h2 x hx).mono (p2 hn)⟩
theorem fq_cm {R : Nat} {r : List Int} (hr : ∀ x ∈ r, x.natAbs ≤ 2 ^ R) : Cm 0 R (fq r) := ⟨1, by decide, by decide, fun x hx => by
  obtain ⟨z, hz, rfl⟩ := List.mem_map.mp hx
  exact (Ov.int z).mono (hr z hz)⟩
/-- uprights laid so far: sizes -/
structure Us (w : Nat) (us : List (List Rat)) : Prop where
  n3 : us.length ≤ 3
  rt : Rt w us
  cm : ∀ (j : Nat) (u : List Rat), us[j]? = some u → Cm (dB j) (40 + dB j + j) u
theorem up_cm {w R : Nat} {us : List (List Rat)} {r : List Int} (U : Us w us) (hw : w ≤ 5) (hr : ∀ x ∈ r, x.natAbs ≤ 2 ^ R) : ∀ k, k ≤ us.length → Cm (dB k) (R + dB k + k) (upf r (us.take k) (fq r))
  | 0, _ => (fq_cm hr).mono (Nat.le_refl _) (by omega)
  | k + 1, hk => by
    have ih := up_cm U hw hr k (by omega)
    have hkl : k < us.length := hk
    have hu : us[k]? = some us[k] := List.getElem?_eq_getElem hkl
    have hc := U.cm k _ hu
    have hm : us[k] ∈ us := List.getElem_mem hkl
    have e : upf r (us.take (k + 1)) (fq r) = ax (-(sh r us[k])) (upf r (us.take k) (fq r)) us[k] := by
      unfold upf
      rw [List.take_add_one, hu, List.foldl_append]
      rfl
    rw [e]
    have s := up_step (R := R) (r := r) (by rw [U.rt.wid _ hm]; exact hw) ih hc hr (U.rt.nz _ hm)
    have hd : dB k + (2 * (40 + dB k + k) + 3) = dB (k + 1) := by
      have := U.n3
      rcases (show k = 0 ∨ k = 1 ∨ k = 2 by omega) with h | h | h <;> subst h <;> rfl
    rw [hd] at s
    exact s
theorem dB_le (k : Nat) : dB k ≤ 1089 := by
  unfold dB
  split <;> omega
theorem up_uk {w R : Nat} {us : List (List Rat)} {r : List Int} (U : Us w us) (hw : w ≤ 5) (hr : ∀ x ∈ r, x.natAbs ≤ 2 ^ R) (hR : R ≤ 600) (hl : r.length = w) (k : Nat) (hk : k ≤ us.length) : Uk (upf r (us.take k) (fq r)) := by
  refine ⟨?_, (up_cm U hw hr k hk).mono (by have := dB_le k; omega) (by have := dB_le k; have := U.n3; omega)⟩
  rw [upf_len (w := w) (fun u hu => U.rt.wid u (List.mem_of_mem_take hu)) (by rw [fq_len, hl])]
  exact hw
theorem Us.uk {w : Nat} {us : List (List Rat)} (U : Us w us) (hw : w ≤ 5) : ∀ u ∈ us, Uk u := fun u hu => by
  obtain ⟨j, hj⟩ := List.mem_iff_getElem?.mp hu
  have hl : j < us.length := (List.getElem?_eq_some_iff.mp hj).1
  refine ⟨by rw [U.rt.wid _ hu]; exact hw, (U.cm j u hj).mono (by have := dB_le j; omega) (by have := dB_le j; have := U.n3; omega)⟩
theorem Us.snoc {w : Nat} {us : List (List Rat)} {r : List Int} (U : Us w us) (hw : w ≤ 5) (hr : ∀ x ∈ r, x.natAbs ≤ 2 ^ 40) (hl : r.length = w) (h3 : us.length < 3) (hn : dq (up us r) (up us r) ≠ 0) : Us w (us ++ [up us r]) := by
  refine ⟨by rw [List.length_append, List.length_singleton]; omega, U.rt.snoc hl hn, fun j u hj => ?_⟩
  by_cases h : j < us.length
  · rw [List.getElem?_append_left h] at hj
    exact U.cm j u hj
  · rw [List.getElem?_append_right (by omega)] at hj
    have hjl : j = us.length := by
      have := (List.getElem?_eq_some_iff.mp hj).1
      rw [List.length_singleton] at this
      omega
    subst hjl
    rw [Nat.sub_self] at hj
    have hu : up us r = u := Option.some.inj hj
    have := up_cm U hw hr us.length (Nat.le_refl _)
    rw [List.take_length] at this
    rw [← hu]
    exact this
theorem Us.nil {w : Nat} : Us w [] := ⟨by decide, ⟨fun u hu => (nomatch hu), List.Pairwise.nil, fun u hu => (nomatch hu)⟩, fun j u hj => by rw [List.getElem?_nil] at hj; cases hj⟩
/-- rows whose uprights can be reckoned -/
structure Gs (w : Nat) (rows : Tb) : Prop where
  n0 : 0 < rows.length
  n4 : rows.length ≤ 4
  w5 : w ≤ 5
  wd : Wd w rows
  bd : ∀ i, i + 1 < rows.length → ∀ x ∈ rows.getD i [], x.natAbs ≤ 2 ^ 40
  bl : ∀ r ∈ rows, ∀ x ∈ r, x.natAbs ≤ 2 ^ 600
  nz : ∀ m, m ≤ rows.length → de (Gr rows) m ≠ 0
theorem ups_len : ∀ (rows : Tb), (ups rows).length = rows.length := by
  intro rows
  have key : ∀ (l : Tb) (us : List (List Rat)), (l.foldl (fun us r => us ++ [up us r]) us).length = us.length + l.length := by
    intro l
    induction l with
    | nil => intro us; rfl
    | cons r l ih => intro us; rw [List.foldl_cons, ih, List.length_append, List.length_singleton, List.length_cons]; omega
  have := key rows []
  rw [List.length_nil, Nat.zero_add] at this
  exact this
theorem Gs.us {w : Nat} {rows : Tb} (G : Gs w rows) : ∀ k, k < rows.length → Us w (ups (rows.take k)) := by
  intro k
  induction k with
  | zero => intro _; rw [List.take_zero]; exact Us.nil
  | succ k ih =>
    intro hk
    have hkn : k < rows.length := by omega
    rw [take_snoc hkn, ups_snoc]
    have h := (gs_ee G.wd k (by omega) fun m hm => G.nz m (by omega)).2 k k hkn hkn
    have hek : ee (Gr rows) k k k ≠ 0 := fun z => G.nz (k + 1) (by omega) (by show de (Gr rows) k * ee (Gr rows) k k k = 0; rw [z]; grind)
    have h4 := G.n4
    refine (ih hkn).snoc G.w5 (G.bd k hk) (G.wd.at hkn) (by rw [ups_len, List.length_take]; omega) (by rw [h]; exact hek)
theorem Gs.rt {w : Nat} {rows : Tb} (G : Gs w rows) : Rt w (ups rows) := by
  have := (gs_ee G.wd rows.length (Nat.le_refl _) G.nz).1
  rw [List.take_length] at this
  exact this
theorem ups_at {rows : Tb} {k : Nat} (hk : k < rows.length) : (ups rows)[k]? = some (up (ups (rows.take k)) (rows.getD k [])) := by
  have key : ∀ (a b : Tb), k < a.length → (ups (a ++ b))[k]? = (ups a)[k]? := by
    intro a b ha
    unfold ups
    rw [List.foldl_append]
    have : ∀ (l : Tb) (us : List (List Rat)), k < us.length → (l.foldl (fun us r => us ++ [up us r]) us)[k]? = us[k]? := by
      intro l
      induction l with
      | nil => intro us _; rfl
      | cons r l ih => intro us hu; rw [List.foldl_cons, ih _ (by rw [List.length_append]; omega), List.getElem?_append_left hu]
    exact this b _ (by have := ups_len a; unfold ups at this; omega)
  have e : rows = rows.take (k + 1) ++ rows.drop (k + 1) := (List.take_append_drop _ _).symm
  have h1 := key (rows.take (k + 1)) (rows.drop (k + 1)) (by rw [List.length_take]; omega)
  rw [← e] at h1
  rw [h1, take_snoc hk, ups_snoc]
  have hl : (ups (rows.take k)).length = k := by rw [ups_len, List.length_take]; omega
  rw [List.getElem?_append_right (by omega), hl, Nat.sub_self]
  rfl
theorem ups_take {rows : Tb} (k : Nat) : (ups rows).take k = ups (rows.take k) := by
  refine List.ext_getElem? fun i => ?_
  by_cases hi : i < k
  · rw [List.getElem?_take, if_pos hi]
    by_cases hl : i < rows.length
    · rw [ups_at hl, ups_at (rows := rows.take k) (by rw [List.length_take]; omega)]
      rw [List.take_take, Nat.min_eq_left (by omega)]
      congr 2
      rw [List.getD_eq_getElem?_getD, List.getD_eq_getElem?_getD, List.getElem?_take, if_pos hi]
    · rw [List.getElem?_eq_none (by rw [ups_len]; omega), List.getElem?_eq_none (by rw [ups_len, List.length_take]; omega)]
  · rw [List.getElem?_eq_none (by rw [List.length_take]; omega), List.getElem?_eq_none (by rw [ups_len, List.length_take]; omega)]
/-- every upright can be reckoned with -/
theorem Gs.uk {w : Nat} {rows : Tb} (G : Gs w rows) : ∀ u ∈ ups rows, Uk u := fun u hu => by
  obtain ⟨j, hj⟩ := List.mem_iff_getElem?.mp hu
  have hl : j < rows.length := by rw [← ups_len]; exact (List.getElem?_eq_some_iff.mp hj).1
  rw [ups_at hl] at hj
  rw [← Option.some.inj hj]
  have U := G.us j hl
  have := up_uk U G.w5 (R := 600) (G.bl _ (getD_mem hl)) (Nat.le_refl _) (G.wd.at hl) _ (Nat.le_refl _)
  rw [List.take_length] at this
  exact this
end Mi
namespace Mi
/-! ### what the program's functions tell -/
def shsM (rows : Tb) : List (List Rat) := (enumI rows).map fun p => ((ups rows).take p.1.toNat).map fun u => sh p.2 u
def hgtM (rows : Tb) : List Rat := (ups rows).map fun u => dq u u
def volsM (rows : Tb) : List Int := (rgI 0 rows.length).map fun k => vol (rows.take (k + 1).toNat)
/-- what is due at the least -/
def leastQ (low part : Rat) : Rat := ((3 : Rat) / 4 + -part * part) * low
def standM (low high part : Rat) : Bool := !decide (high < leastQ low part)
def bigM (q : Rat) : Bool := decide ((q.den : Int) < 2 * (q.num.natAbs : Int))
def trimB (hs : List Rat) (p : Int × List Rat) : Bool := !(p.2.any bigM) && (p.1 == 0 || standM (hs.getD (p.1 - 1).toNat 0) (hs.getD p.1.toNat 0) (p.2.getD (p.2.length - 1) 0))
def trimM (rows : Tb) : Bool := (enumI (shsM rows)).all (trimB (hgtM rows))
structure StOk (low high part : Rat) : Prop where
  l : Sz low
  h : Sz high
  p : Sz part
  pp : Sz (-part * part)
  s : Sz ((3 : Rat) / 4 + -part * part)
  m : Sz (leastQ low part)
theorem Us.small {w : Nat} {us : List (List Rat)} (U : Us w us) (hw : w ≤ 5) {r : List Int} (hr : ∀ x ∈ r, x.natAbs ≤ 2 ^ 600) : ∀ u ∈ us, (∃ E : Nat, 0 < E ∧ E ≤ 2 ^ 760 ∧ Ov E (2 ^ 1400) (sh r u)) ∧ ∃ D : Nat, 0 < D ∧ D ≤ 2 ^ 700 ∧ Ov D (2 ^ 800) (dq u u) := fun u hu => by
  obtain ⟨j, hj⟩ := List.mem_iff_getElem?.mp hu
  have hl : j < us.length := (List.getElem?_eq_some_iff.mp hj).1
  have h3 := U.n3
  have hc : Cm 334 376 u := (U.cm j u hj).mono (by rcases (show j = 0 ∨ j = 1 ∨ j = 2 by omega) with h | h | h <;> subst h <;> decide) (by rcases (show j = 0 ∨ j = 1 ∨ j = 2 by omega) with h | h | h <;> subst h <;> decide)
  obtain ⟨D, d0, d1, d2⟩ := hc
  have hu5 : u.length ≤ 5 := by rw [U.rt.wid _ hu]; exact hw
  have hq := square_ov d2 hu5
  obtain ⟨E, e0, e1, _, e2⟩ := share_ov d0 (along_ov hr d2 hu5) hq (pos_of_nz (U.rt.nz _ hu))
  refine ⟨⟨E, e0, Nat.le_trans (Nat.le_trans e1 (five (pm (Nat.le_refl _) (Nat.le_refl _)))) (p2 (by decide)), e2.mono (Nat.le_trans (pm (five (pm (Nat.le_refl _) (Nat.le_refl _))) d1) (p2 (by decide)))⟩, D * D, Nat.mul_pos d0 d0, Nat.le_trans (pm d1 d1) (p2 (by decide)), hq.mono (Nat.le_trans (five (pm (Nat.le_refl _) (Nat.le_refl _))) (p2 (by decide)))⟩
theorem hb_aux {c X Y Z U : Nat} (x1 : c ≤ Z) (x2 : Z ≤ X) (x5 : Y ≤ X) (x4 : X * 2 ^ 3 ≤ U) : 3 * c + Y * 4 ≤ U := by omega
theorem st_ok {E D : Nat} {low high part : Rat} (e0 : 0 < E) (e1 : E ≤ 2 ^ 760) (e2 : Ov E (2 ^ 1400) part) (d0 : 0 < D) (d1 : D ≤ 2 ^ 700) (d2 : Ov D (2 ^ 800) low) (hh : Sz high) : StOk low high part := by
  have h34 : Ov 4 3 ((3 : Rat) / 4) := ⟨3, by
    have a : ((4 : Nat) : Rat) = 4 := rfl
    have b : ((3 : Int) : Rat) = 3 := rfl
    grind, by decide⟩
  have hpp := e2.neg.mul e2
  have hee : 0 < E * E := Nat.mul_pos e0 e0
  have s1 := h34.scale (E := E * E)
  have s2 := hpp.scale (E := 4)
  rw [Nat.mul_comm (E * E) 4] at s2
  have hs := (s1.add s2)
  have hb : 3 * (E * E) + 2 ^ 1400 * 2 ^ 1400 * 4 ≤ 2 ^ 2803 := by
    have x5 : (2 : Nat) ^ 1400 * 2 ^ 1400 ≤ 2 ^ 2800 := Nat.le_trans (pm (Nat.le_refl _) (Nat.le_refl _)) (p2 (by decide))
    have x4 : (2 : Nat) ^ 2800 * 2 ^ 3 ≤ 2 ^ 2803 := Nat.le_trans (pm (Nat.le_refl _) (Nat.le_refl _)) (p2 (by decide))
    exact hb_aux (pm e1 e1) (p2 (by decide)) x5 x4
  have hs' := hs.mono hb
  have hd : 4 * (E * E) ≤ 2 ^ 1522 := Nat.le_trans (pm (show 4 ≤ 2 ^ 2 by decide) (pm e1 e1)) (p2 (by decide))
  refine ⟨d2.lt d0 d1 (Nat.le_refl _) (by decide) (by decide), hh, e2.lt e0 e1 (Nat.le_refl _) (by decide) (by decide), hpp.lt hee (pm e1 e1) (pm (Nat.le_refl _) (Nat.le_refl _)) (by decide) (by decide), hs'.lt (by omega) hd (Nat.le_refl _) (by decide) (by decide), ?_⟩
  exact (hs'.mul d2).lt (Nat.mul_pos (by omega) d0) (pm hd d1) (pm (Nat.le_refl _) (Nat.le_refl _)) (by decide) (by decide)
theorem getD_of {α : Type} {xs : List α} {i : Nat} {d x : α} (h : xs[i]? = some x) : xs.getD i d = x := by
  rw [List.getD_eq_getElem?_getD, h]
  rfl
/-- what stands_well needs, at each place behind the first -/
theorem Gs.st {w : Nat} {rows : Tb} (G : Gs w rows) {k : Nat} (hk : k + 1 < rows.length) : StOk ((hgtM rows).getD k 0) ((hgtM rows).getD (k + 1) 0) ((((ups rows).take (k + 1)).map fun u => sh (rows.getD (k + 1) []) u).getD k 0) := by
  have U := G.us (k + 1) hk
  have hm : up (ups (rows.take k)) (rows.getD k []) ∈ ups (rows.take (k + 1)) := by
    rw [take_snoc (by omega), ups_snoc]
    exact List.mem_append_right _ (List.mem_singleton.mpr rfl)
  obtain ⟨⟨E, e0, e1, e2⟩, D, d0, d1, d2⟩ := U.small G.w5 (G.bl _ (getD_mem hk)) _ hm
  have h1 : (hgtM rows).getD k 0 = dq (up (ups (rows.take k)) (rows.getD k [])) (up (ups (rows.take k)) (rows.getD k [])) := getD_of (by unfold hgtM; rw [List.getElem?_map, ups_at (by omega)]; rfl)
  have h2 : (((ups rows).take (k + 1)).map fun u => sh (rows.getD (k + 1) []) u).getD k 0 = sh (rows.getD (k + 1) []) (up (ups (rows.take k)) (rows.getD k [])) := getD_of (by rw [List.getElem?_map, List.getElem?_take, if_pos (by omega), ups_at (by omega)]; rfl)
  rw [h1, h2]
  refine st_ok e0 e1 e2 d0 d1 d2 ?_
  have h3 : (hgtM rows).getD (k + 1) 0 = dq (up (ups (rows.take (k + 1))) (rows.getD (k + 1) [])) (up (ups (rows.take (k + 1))) (rows.getD (k + 1) [])) := getD_of (by unfold hgtM; rw [List.getElem?_map, ups_at hk]; rfl)
  rw [h3]
  exact (G.uk _ (List.mem_of_getElem? (ups_at hk))).s
end Mi
namespace Mi
theorem any_map {α : Type} {f : α → Bool} (xs : List α) : (xs.map f).any id = xs.any f := by rw [List.any_map]; rfl
theorem shs_at {w : Nat} {rows : Tb} (G : Gs w rows) {i : Nat} (hi : i < rows.length) {xr : List Rat} (h : (shsM rows)[i]? = some xr) : xr = ((ups rows).take i).map (fun u => sh (rows.getD i []) u) ∧ xr.length = i ∧ ∀ x ∈ xr, Sz x := by
  have e : xr = ((ups rows).take i).map (fun u => sh (rows.getD i []) u) := by
    unfold shsM at h
    rw [List.getElem?_map] at h
    cases hz : (enumI rows)[i]? with
    | none => rw [hz] at h; cases h
    | some y =>
      rw [hz] at h
      obtain ⟨h1, h2⟩ := enumI_get hz
      rw [← Option.some.inj h, getD_of h2]
      show ((ups rows).take y.1.toNat).map _ = _
      rw [h1]
      rfl
  refine ⟨e, by rw [e, List.length_map, List.length_take, ups_len]; omega, fun x hx => ?_⟩
  rw [e] at hx
  obtain ⟨u, hu, rfl⟩ := List.mem_map.mp hx
  have hm := List.mem_of_mem_take hu
  exact (G.uk _ hm).sh ⟨G.bl _ (getD_mem hi)⟩ (G.rt.nz _ hm)
theorem ov34 : Ov 4 3 ((3 : Rat) / 4) := ⟨3, by
    have a : ((4 : Nat) : Rat) = 4 := rfl
    have b : ((3 : Int) : Rat) = 3 := rfl
    grind, by decide⟩
theorem sz34 : Sz ((3 : Rat) / 4) := ov34.lt (by decide) (show 4 ≤ 2 ^ 2 by decide) (show 3 ≤ 2 ^ 2 by decide) (by decide) (by decide)
theorem mem_rgI {n : Nat} {x : Int} (h : x ∈ rgI 0 n) : 0 ≤ x ∧ x < (n : Int) := by
  obtain ⟨i, hi⟩ := List.mem_iff_getElem?.mp h
  have := rgI_get hi
  omega
end Mi
namespace Mi
/-- two lists of fractions that can be gone along -/
structure AlS (x y : List Rat) : Prop where
  len : x.length = y.length
  sz : ∀ p ∈ x.zip y, Sz p.1 ∧ Sz p.2 ∧ Sz (p.1 * p.2)
  part : ∀ k, Sz (tot (((x.zip y).map fun p => p.1 * p.2).take k))
theorem Uk.als {r : List Int} {u : List Rat} (h : Uk u) (k : Rk r) (hl : r.length = u.length) : AlS (fq r) u := by
  have e : ((fq r).zip u).map (fun p => p.1 * p.2) = (r.zip u).map fun p => (p.1 : Rat) * p.2 := by
    unfold fq
    rw [List.zip_map_left, List.map_map]
    rfl
  refine ⟨by rw [fq_len, hl], fun p hp => ?_, fun m => by rw [e]; exact (h.al k).2 m⟩
  have hm := List.of_mem_zip hp
  obtain ⟨z, hz, hz2⟩ := List.mem_map.mp hm.1
  refine ⟨by rw [← hz2]; exact sz_int (k.bd z hz), h.sz _ hm.2, (h.al k).1 _ ?_⟩
  rw [← e]
  exact List.mem_map.mpr ⟨p, hp, rfl⟩
theorem zip_self_map (u : List Rat) : ((u.zip u).map fun p => p.1 * p.2) = u.map fun p => p * p := by
  induction u with
  | nil => rfl
  | cons a u ih => rw [List.zip_cons_cons, List.map_cons, List.map_cons, ih]
theorem Uk.alss {u : List Rat} (h : Uk u) : AlS u u := by
  refine ⟨rfl, fun p hp => ?_, fun m => by rw [zip_self_map]; exact h.sq.2 m⟩
  have hm := List.of_mem_zip hp
  refine ⟨h.sz _ hm.1, h.sz _ hm.2, h.sq.1 _ ?_⟩
  rw [← zip_self_map]
  exact List.mem_map.mpr ⟨p, hp, rfl⟩
end Mi
namespace Mi
theorem shs_get {w : Nat} {rows : Tb} (G : Gs w rows) {i : Nat} (hi : i < rows.length) : (shsM rows)[i]? = some (((ups rows).take i).map (fun u => sh (rows.getD i []) u)) := by
  have hl : i < (shsM rows).length := by unfold shsM; rw [List.length_map, enumI_len]; exact hi
  have h := List.getElem?_eq_getElem hl
  rw [h, (shs_at G hi h).1]
theorem enumI_at {α : Type} {xs : List α} {i : Nat} {x : α} (h : xs[i]? = some x) : (enumI xs)[i]? = some ((i : Int), x) := by
  unfold enumI
  rw [List.getElem?_map, List.getElem?_zipIdx, h]
  show some (((0 + i : Nat) : Int), x) = _
  rw [Nat.zero_add]
theorem trim_first {w : Nat} {rows : Tb} (G : Gs w rows) : ((enumI (shsM rows)).take (0 + 1)).all (trimB (hgtM rows)) = true := by
  have h := shs_get G G.n0
  rw [List.take_add_one, enumI_at h, List.take_zero]
  rfl
theorem trim_next {rows : Tb} {i : Nat} {xr : List Rat} (h : (shsM rows)[i + 1]? = some xr) (hl : xr.length = i + 1) (ht : ((enumI (shsM rows)).take (i + 1)).all (trimB (hgtM rows)) = true) {b : Bool} (hb : (!(xr.any bigM) && standM ((hgtM rows).getD i 0) ((hgtM rows).getD (i + 1) 0) (xr.getD i 0)) = b) : ((enumI (shsM rows)).take (i + 1 + 1)).all (trimB (hgtM rows)) = b := by
  rw [List.take_add_one, enumI_at h, List.all_append, ht]
  show (true && (trimB (hgtM rows) (((i + 1 : Nat) : Int), xr) && true)) = b
  have e : trimB (hgtM rows) (((i + 1 : Nat) : Int), xr) = (!(xr.any bigM) && standM ((hgtM rows).getD i 0) ((hgtM rows).getD (i + 1) 0) (xr.getD i 0)) := by
    show (!(xr.any bigM) && ((((i + 1 : Nat) : Int) == 0) || standM ((hgtM rows).getD (((i + 1 : Nat) : Int) - 1).toNat 0) ((hgtM rows).getD (((i + 1 : Nat) : Int)).toNat 0) (xr.getD (xr.length - 1) 0))) = _
    rw [show (((i + 1 : Nat) : Int) == 0) = false by simp; omega, show (((i + 1 : Nat) : Int) - 1).toNat = i by omega, show (((i + 1 : Nat) : Int)).toNat = i + 1 by omega, show xr.length - 1 = i by omega]
    rfl
  rw [e, hb]
  cases b <;> rfl
theorem filter_any {f : Rat → Bool} (xs : List Rat) : (!decide ((xs.filter f).map (fun x => x) = [])) = xs.any f := by
  rw [List.map_id']
  cases h : xs.any f with
  | true =>
    have : xs.filter f ≠ [] := fun z => by
      obtain ⟨x, hx, hf⟩ := List.any_eq_true.mp h
      have := List.mem_filter.mpr ⟨hx, hf⟩
      rw [z] at this
      cases this
    rw [decide_eq_false this]
    rfl
  | false =>
    have : xs.filter f = [] := by
      rw [List.filter_eq_nil_iff]
      intro x hx hf
      have := List.any_eq_true.mpr ⟨x, hx, hf⟩
      rw [h] at this
      cases this
    rw [decide_eq_true this]
    rfl
end Mi
namespace Mi
theorem Good.gs {rows : Tb} (h : Good rows) : ∃ w, 0 < w ∧ Gs w rows ∧ Rw rows w := by
  obtain ⟨n0, n4, ⟨w, w0, w5, R⟩, v⟩ := h
  refine ⟨w, w0, ⟨n0, n4, w5, R.wid, fun i hi x hx => ?_, fun r hr x hx => ?_, (vol_nz n4).mp v⟩, R.rw n4 w5⟩
  · exact Nat.le_trans (R.bd _ (getD_mem (by omega)) x hx) (by decide)
  · exact Nat.le_trans (R.bd r hr x hx) (Nat.le_trans (show 1000 ≤ 2 ^ 10 by decide) (p2 (by decide)))
theorem part_eq (p : Rat) : ([p.num, (p.den : Int)] : List Int).length = 2 := rfl
end Mi

/-! What lies near. -/
set_option maxHeartbeats 4000000
namespace Mi
theorem near1_ok (q : Rat) : 2 * ((near1 q : Int) : Rat) - 1 ≤ 2 * q ∧ 2 * q < 2 * ((near1 q : Int) : Rat) + 1 := by
  have hd := q.den_pos
  have h1 := Int.mul_ediv_add_emod (2 * q.num + (q.den : Int)) (2 * (q.den : Int))
  have h2 := Int.emod_nonneg (2 * q.num + (q.den : Int)) (show 2 * (q.den : Int) ≠ 0 by omega)
  have h3 := Int.emod_lt_of_pos (2 * q.num + (q.den : Int)) (show 0 < 2 * (q.den : Int) by omega)
  have e : near1 q = (2 * q.num + (q.den : Int)) / (2 * (q.den : Int)) := rfl
  rw [← e] at h1
  generalize near1 q = z at *
  generalize (2 * q.num + (q.den : Int)) % (2 * (q.den : Int)) = r at *
  have hq := cast_rat q
  have hdr : (0 : Rat) < (q.den : Rat) := by
    have : ((0 : Int) : Rat) < ((q.den : Int) : Rat) := by exact_mod_cast hd
    exact this
  have hn := nat_rat q.den
  have h1' : 2 * ((q.den : Int) : Rat) * (z : Rat) + (r : Rat) = 2 * (q.num : Rat) + ((q.den : Int) : Rat) := by
    have := congrArg (fun x : Int => (x : Rat)) h1
    simp only [Rat.intCast_add, Rat.intCast_mul] at this
    exact this
  have h2' : (0 : Rat) ≤ (r : Rat) := by
    have : ((0 : Int) : Rat) ≤ (r : Rat) := by exact_mod_cast h2
    exact this
  have h3' : (r : Rat) < 2 * ((q.den : Int) : Rat) := by
    have : (r : Rat) < ((2 * (q.den : Int) : Int) : Rat) := by exact_mod_cast h3
    rw [Rat.intCast_mul] at this
    exact this
  rw [hn, ← hq] at h1'
  rw [hn] at h3'
  generalize (q.den : Rat) = d at *
  have k1 : 0 ≤ (2 * q - (2 * (z : Rat) - 1)) * d := by grind
  have k2 : 0 < ((2 * (z : Rat) + 1) - 2 * q) * d := by grind
  constructor
  · by_cases h : 0 ≤ 2 * q - (2 * (z : Rat) - 1)
    · grind
    · have : (2 * q - (2 * (z : Rat) - 1)) * d < 0 := by
        have := Rat.mul_pos (show 0 < -(2 * q - (2 * (z : Rat) - 1)) by grind) hdr
        grind
      grind
  · by_cases h : 0 < (2 * (z : Rat) + 1) - 2 * q
    · grind
    · have : 0 ≤ (-((2 * (z : Rat) + 1) - 2 * q)) * d := Rat.mul_nonneg (by grind) (by grind)
      grind
/-- at most one half either way -/
def Hf (q : Rat) : Prop := -1 ≤ 2 * q ∧ 2 * q ≤ 1
theorem near1_hf (q : Rat) : Hf (q - ((near1 q : Int) : Rat)) := by
  have := near1_ok q
  constructor <;> grind
theorem Hf.big {q : Rat} (h : Hf q) : bigM q = false := by
  have hq := cast_rat q
  have hd := q.den_pos
  have hdr : (0 : Rat) < (q.den : Rat) := by
    have : ((0 : Int) : Rat) < ((q.den : Int) : Rat) := by exact_mod_cast hd
    exact this
  have k1 : 0 ≤ (2 * q + 1) * (q.den : Rat) := Rat.mul_nonneg (by have := h.1; grind) (by grind)
  have k2 : 0 ≤ (1 - 2 * q) * (q.den : Rat) := Rat.mul_nonneg (by have := h.2; grind) (by grind)
  have e1 : ((0 : Int) : Rat) ≤ ((2 * q.num + (q.den : Int) : Int) : Rat) := by
    rw [Rat.intCast_add, Rat.intCast_mul]
    have := nat_rat q.den
    have : ((2 : Int) : Rat) = 2 := rfl
    have : ((0 : Int) : Rat) = 0 := rfl
    grind
  have e2 : ((0 : Int) : Rat) ≤ (((q.den : Int) - 2 * q.num : Int) : Rat) := by
    rw [Rat.intCast_sub, Rat.intCast_mul]
    have := nat_rat q.den
    have : ((2 : Int) : Rat) = 2 := rfl
    have : ((0 : Int) : Rat) = 0 := rfl
    grind
  have f1 : 0 ≤ 2 * q.num + (q.den : Int) := by exact_mod_cast e1
  have f2 : 0 ≤ (q.den : Int) - 2 * q.num := by exact_mod_cast e2
  unfold bigM
  exact decide_eq_false (by omega)
theorem big_hf {q : Rat} (h : bigM q = false) : Hf q := by
  have f := of_decide_eq_false h
  have hq := cast_rat q
  have hd := q.den_pos
  have hdr : (0 : Rat) < (q.den : Rat) := by
    have : ((0 : Int) : Rat) < ((q.den : Int) : Rat) := by exact_mod_cast hd
    exact this
  have f1 : 0 ≤ 2 * q.num + (q.den : Int) := by omega
  have f2 : 0 ≤ (q.den : Int) - 2 * q.num := by omega
  have e1 : ((0 : Int) : Rat) ≤ ((2 * q.num + (q.den : Int) : Int) : Rat) := by exact_mod_cast f1
  have e2 : ((0 : Int) : Rat) ≤ (((q.den : Int) - 2 * q.num : Int) : Rat) := by exact_mod_cast f2
  rw [Rat.intCast_add, Rat.intCast_mul] at e1
  rw [Rat.intCast_sub, Rat.intCast_mul] at e2
  have c1 := nat_rat q.den
  have c2 : ((2 : Int) : Rat) = 2 := rfl
  have c3 : ((0 : Int) : Rat) = 0 := rfl
  rw [c1, c2, c3, ← hq] at e1 e2
  generalize (q.den : Rat) = d at *
  constructor
  · by_cases h : 0 ≤ 2 * q + 1
    · grind
    · have := Rat.mul_pos (show 0 < -(2 * q + 1) by grind) hdr
      grind
  · by_cases h : 0 ≤ 1 - 2 * q
    · grind
    · have := Rat.mul_pos (show 0 < -(1 - 2 * q) by grind) hdr
      grind
/-! ### a row less another one so often -/
def lessM (x : List Int) (o : Int) (y : List Int) : List Int := (x.zip y).map fun p => p.1 - o * p.2
theorem lessM_len {x y : List Int} {o : Int} (h : x.length = y.length) : (lessM x o y).length = x.length := by unfold lessM; rw [List.length_map, List.length_zip, ← h, Nat.min_self]
theorem lessM_get {x y : List Int} (o : Int) (h : x.length = y.length) (k : Nat) (hk : k < x.length) : (lessM x o y).getD k 0 = x.getD k 0 - o * y.getD k 0 := by
  have e : lessM x o y = (x.zip y).map fun q => q.1 + (-o) * q.2 := by
    unfold lessM
    refine List.map_congr_left fun p _ => ?_
    rw [Int.neg_mul]
    omega
  rw [e, addw _ h k hk, Int.neg_mul]
  omega
theorem fq_less (o : Int) : ∀ x y : List Int, fq (lessM x o y) = ax (-(o : Rat)) (fq x) (fq y)
  | [], _ => by simp [fq, ax, lessM]
  | _ :: _, [] => by simp [fq, ax, lessM]
  | a :: x, b :: y => by
    have ih := fq_less o x y
    show ((a - o * b : Int) : Rat) :: fq (lessM x o y) = ((a : Rat) + -(o : Rat) * (b : Rat)) :: ax (-(o : Rat)) (fq x) (fq y)
    rw [ih]
    congr 1
    grind
theorem sh_less {x y : List Int} {o : Int} {u : List Rat} (h : x.length = y.length) (h0 : dq u u ≠ 0) : sh (lessM x o y) u = sh x u - (o : Rat) * sh y u := by
  unfold sh
  rw [fq_less, dq_ax _ _ _ _ (by rw [fq_len, fq_len, h])]
  refine div_eq h0 ?_
  have e1 : dq (fq x) u / dq u u * dq u u = dq (fq x) u := Rat.div_mul_cancel h0
  have e2 : dq (fq y) u / dq u u * dq u u = dq (fq y) u := Rat.div_mul_cancel h0
  grind
theorem sh_self {w : Nat} {rows : Tb} (G : Gs w rows) {k : Nat} (hk : k < rows.length) : sh (rows.getD k []) (up (ups (rows.take k)) (rows.getD k [])) = 1 := by
  obtain ⟨R, _⟩ := gs_ee G.wd k (by omega) fun m hm => G.nz m (by omega)
  have hnz := G.rt.nz _ (List.mem_of_getElem? (ups_at hk))
  unfold sh
  rw [← up_dq_rt R (G.wd.at hk) (fun v hv => by rw [dq_comm]; exact up_rt R (G.wd.at hk) v hv)]
  exact div_eq hnz (by grind)
/-- an upright sees nothing of the rows ahead of it -/
theorem sh_ahead {w : Nat} {rows : Tb} (G : Gs w rows) {j k : Nat} (hk : k < rows.length) (hj : j < k) : sh (rows.getD j []) (up (ups (rows.take k)) (rows.getD k [])) = 0 := by
  have hnz := G.rt.nz _ (List.mem_of_getElem? (ups_at hk))
  have hjn : j < rows.length := by omega
  -- the row j is its upright and shares of those ahead
  obtain ⟨Rj, _⟩ := gs_ee G.wd j (by omega) fun m hm => G.nz m (by omega)
  obtain ⟨Rk, _⟩ := gs_ee G.wd k (by omega) fun m hm => G.nz m (by omega)
  have hz : ∀ u ∈ ups (rows.take k), dq u (up (ups (rows.take k)) (rows.getD k [])) = 0 := fun u hu => by rw [dq_comm]; exact up_rt Rk (G.wd.at hk) u hu
  have hsub : ∀ u ∈ ups (rows.take j), u ∈ ups (rows.take k) := fun u hu => by
    rw [← ups_take] at hu ⊢
    have : (ups rows).take j = ((ups rows).take k).take j := by rw [List.take_take, Nat.min_eq_left (by omega)]
    rw [this] at hu
    exact List.mem_of_mem_take hu
  have e := up_dq_rt Rj (G.wd.at hjn) (z := up (ups (rows.take k)) (rows.getD k [])) (fun u hu => hz u (hsub u hu))
  have hm : up (ups (rows.take j)) (rows.getD j []) ∈ ups (rows.take k) := by
    rw [← ups_take]
    refine List.mem_of_getElem? (i := j) ?_
    rw [List.getElem?_take, if_pos hj, ups_at hjn]
  unfold sh
  rw [← e, hz _ hm]
  exact div_eq hnz (by grind)
/-- the state of near_and_rest behind i turns: weights, what is left -/
def nrI (rows : Tb) (row : List Int) : Nat → List Int × List Int
  | 0 => ([], row)
  | i + 1 =>
    let t := nrI rows row i
    let k := rows.length - 1 - i
    let o := near1 (sh t.2 ((ups rows).getD k []))
    (o :: t.1, lessM t.2 o (rows.getD k []))
def nearM (rows : Tb) (row : List Int) : List Int := (nrI rows row rows.length).1
def restM (rows : Tb) (row : List Int) : List Int := (nrI rows row rows.length).2
theorem nrI_len {w : Nat} {rows : Tb} (W : Wd w rows) {row : List Int} (h : row.length = w) : ∀ i, i ≤ rows.length → (nrI rows row i).2.length = w ∧ (nrI rows row i).1.length = i
  | 0, _ => ⟨h, rfl⟩
  | i + 1, hi => by
    obtain ⟨h1, h2⟩ := nrI_len W h i (by omega)
    have hk : rows.length - 1 - i < rows.length := by omega
    refine ⟨?_, ?_⟩
    · show (lessM (nrI rows row i).2 _ (rows.getD (rows.length - 1 - i) [])).length = w
      rw [lessM_len (by rw [h1, W.at hk]), h1]
    · show (_ :: (nrI rows row i).1).length = i + 1
      rw [List.length_cons, h2]
theorem ups_getD {rows : Tb} {k : Nat} (hk : k < rows.length) : (ups rows).getD k [] = up (ups (rows.take k)) (rows.getD k []) := getD_of (ups_at hk)
/-- behind i turns the last i shares are at most one half -/
theorem nrI_hf {w : Nat} {rows : Tb} (G : Gs w rows) {row : List Int} (h : row.length = w) : ∀ i, i ≤ rows.length → ∀ k, k < rows.length → rows.length - i ≤ k → Hf (sh (nrI rows row i).2 ((ups rows).getD k []))
  | 0, _ => fun k h1 h2 => by omega
  | i + 1, hi => fun k h1 h2 => by
    have hl := (nrI_len G.wd h i (by omega)).1
    have hk : rows.length - 1 - i < rows.length := by omega
    have hnz := G.rt.nz _ (List.mem_of_getElem? (ups_at h1))
    have hll : (nrI rows row i).2.length = (rows.getD (rows.length - 1 - i) []).length := by rw [hl, G.wd.at hk]
    show Hf (sh (lessM (nrI rows row i).2 _ (rows.getD (rows.length - 1 - i) [])) ((ups rows).getD k []))
    rw [ups_getD h1] at *
    rw [sh_less hll hnz]
    by_cases e : k = rows.length - 1 - i
    · subst e
      rw [sh_self G h1, ups_getD h1]
      have := near1_hf (sh (nrI rows row i).2 (up (ups (rows.take (rows.length - 1 - i))) (rows.getD (rows.length - 1 - i) [])))
      have e2 : ∀ a b : Rat, a - b * 1 = a - b := fun a b => by grind
      rw [e2]
      exact this
    · rw [sh_ahead G h1 (show rows.length - 1 - i < k by omega)]
      have e2 : ∀ a b : Rat, a - b * 0 = a := fun a b => by grind
      rw [e2]
      have := nrI_hf G h i (by omega) k h1 (by omega)
      rw [ups_getD h1] at this
      exact this
/-- what is left is the row less what the weights make, place by place -/
theorem nrI_at {w : Nat} {rows : Tb} (W : Wd w rows) {row : List Int} (h : row.length = w) (p : Nat) (hp : p < w) : ∀ i, i ≤ rows.length → (nrI rows row i).2.getD p 0 + (((nrI rows row i).1.zip (rows.drop (rows.length - i))).map fun q => q.1 * q.2.getD p 0).sum = row.getD p 0
  | 0, _ => by
    show row.getD p 0 + (([] : List (Int × List Int)).map _).sum = _
    simp
  | i + 1, hi => by
    have ih := nrI_at W h p hp i (by omega)
    have hl := (nrI_len W h i (by omega)).1
    have hk : rows.length - 1 - i < rows.length := by omega
    have hd : rows.drop (rows.length - (i + 1)) = rows.getD (rows.length - 1 - i) [] :: rows.drop (rows.length - i) := by
      rw [show rows.length - (i + 1) = rows.length - 1 - i by omega, List.drop_eq_getElem_cons hk, show rows.length - 1 - i + 1 = rows.length - i by omega]
      congr 1
      exact (getD_of (List.getElem?_eq_getElem hk)).symm
    show (lessM (nrI rows row i).2 _ (rows.getD (rows.length - 1 - i) [])).getD p 0 + _ = _
    rw [lessM_get _ (by rw [hl, W.at hk]) p (by omega), hd]
    show _ + (((_ :: (nrI rows row i).1).zip _).map _).sum = _
    rw [List.zip_cons_cons, List.map_cons, List.sum_cons]
    generalize (((nrI rows row i).1.zip (rows.drop (rows.length - i))).map fun q => q.1 * q.2.getD p 0).sum = S at *
    generalize near1 (sh (nrI rows row i).2 ((ups rows).getD (rows.length - 1 - i) [])) = o at *
    show _ - o * (rows.getD (rows.length - 1 - i) []).getD p 0 + (o * (rows.getD (rows.length - 1 - i) []).getD p 0 + S) = _
    omega
theorem rest_at {w : Nat} {rows : Tb} (W : Wd w rows) (h0 : 0 < rows.length) {row : List Int} (h : row.length = w) (p : Nat) (hp : p < w) : (restM rows row).getD p 0 + (madeM rows (nearM rows row)).getD p 0 = row.getD p 0 := by
  have := nrI_at W h p hp rows.length (Nat.le_refl _)
  rw [Nat.sub_self, List.drop_zero] at this
  rw [madeM_get W h0 p hp]
  exact this
end Mi

/-! How long what is left can be. -/
set_option maxHeartbeats 4000000
namespace Mi
/-- a row's square -/
def Nq (x : List Int) : Rat := dq (fq x) (fq x)
theorem Nq_nn (x : List Int) : 0 ≤ Nq x := dq_nn _
theorem Nq_int (x : List Int) : Nq x = ((dotI x x : Int) : Rat) := (dotI_q x x).symm
theorem sh_sq {x : List Int} {u : List Rat} (hl : x.length = u.length) (h0 : dq u u ≠ 0) : sh x u * sh x u * dq u u ≤ Nq x := by
  have h1 := dq_nn (ax (-(sh x u)) (fq x) u)
  have hl' : (fq x).length = u.length := by rw [fq_len, hl]
  rw [dq_ax _ _ _ _ hl', dq_ax_r _ _ _ _ hl', dq_ax_r _ _ _ _ hl', dq_comm u (fq x)] at h1
  have e : sh x u * dq u u = dq (fq x) u := Rat.div_mul_cancel h0
  show _ ≤ dq (fq x) (fq x)
  rw [← e] at h1
  grind
theorem le_mul {a b c : Rat} (h : a ≤ b) (hc : 0 ≤ c) : a * c ≤ b * c := by
  have := Rat.mul_nonneg (show 0 ≤ b - a by grind) hc
  grind
theorem mul_le2 {a b c d : Rat} (h : a ≤ b) (k : c ≤ d) (hc : 0 ≤ c) (hb : 0 ≤ b) : a * c ≤ b * d := by
  have h1 := le_mul h hc
  have h2 := le_mul k hb
  grind
def Bp (B : Rat) : Nat → Rat
  | 0 => 1
  | k + 1 => Bp B k * B
theorem Bp_pos {B : Rat} (h : 1 ≤ B) : ∀ k, 1 ≤ Bp B k
  | 0 => by show (1 : Rat) ≤ 1; grind
  | k + 1 => by
    have h1 := Bp_pos h k
    have := mul_le2 h1 h (by grind) (by grind)
    show 1 ≤ Bp B k * B
    grind
theorem Bp_mono {B : Rat} (h : 1 ≤ B) {j k : Nat} (hjk : j ≤ k) : Bp B j ≤ Bp B k := by
  induction k with
  | zero => rw [show j = 0 by omega]; exact Rat.le_refl
  | succ k ih =>
    by_cases e : j = k + 1
    · rw [e]; exact Rat.le_refl
    · have h1 := ih (by omega)
      have h2 := Bp_pos h k
      have h3 := le_mul h (show 0 ≤ Bp B k by grind)
      show Bp B j ≤ Bp B k * B
      grind
/-- the heights -/
theorem ee_h {w : Nat} {rows : Tb} (G : Gs w rows) {k : Nat} (hk : k < rows.length) : dq ((ups rows).getD k []) ((ups rows).getD k []) = ee (Gr rows) k k k := by
  rw [ups_getD hk]
  exact (gs_ee G.wd k (by omega) fun m hm => G.nz m (by omega)).2 k k hk hk
theorem ee_pos {w : Nat} {rows : Tb} (G : Gs w rows) {k : Nat} (hk : k < rows.length) : 0 < ee (Gr rows) k k k := by
  rw [← ee_h G hk]
  refine pos_of_nz (G.rt.nz _ ?_)
  rw [ups_getD hk]
  exact List.mem_of_getElem? (ups_at hk)
theorem de_pos {w : Nat} {rows : Tb} (G : Gs w rows) : ∀ k, k ≤ rows.length → 0 < de (Gr rows) k
  | 0, _ => by show (0 : Rat) < 1; decide
  | k + 1, hk => Rat.mul_pos (de_pos G k (by omega)) (ee_pos G hk)
theorem wh_de {rows : Tb} {k : Nat} (h4 : k ≤ 4) (h : ∀ m, m ≤ k → de (Gr rows) m ≠ 0) : Wh (de (Gr rows) k) := by
  rw [de_gd h4 h]
  have g := Wh.gr rows
  match k, h4 with
  | 0, _ => exact ⟨1, rfl⟩
  | 1, _ => exact g 0 0
  | 2, _ => exact .sub (.mul (g _ _) (g _ _)) (.mul (g _ _) (g _ _))
  | 3, _ =>
    show Wh (m3 _ 2 2)
    unfold m3
    repeat first | exact g _ _ | apply Wh.add | apply Wh.sub | apply Wh.mul
  | 4, _ =>
    show Wh (m4 _ 3 3)
    unfold m4
    repeat first | exact g _ _ | exact ⟨0, rfl⟩ | apply Wh.add | apply Wh.sub | apply Wh.mul
theorem wh_one {x : Rat} (h : Wh x) (h0 : 0 < x) : 1 ≤ x := by
  obtain ⟨z, rfl⟩ := h
  have : ((0 : Int) : Rat) < (z : Rat) := h0
  have h1 : 0 < z := by exact_mod_cast this
  have h2 : (1 : Int) ≤ z := h1
  have : ((1 : Int) : Rat) ≤ (z : Rat) := by exact_mod_cast h2
  exact this
theorem de_one {w : Nat} {rows : Tb} (G : Gs w rows) {k : Nat} (hk : k ≤ rows.length) : 1 ≤ de (Gr rows) k :=
  wh_one (wh_de (Nat.le_trans hk G.n4) fun m hm => G.nz m (by omega)) (de_pos G k hk)
theorem ee_le {w : Nat} {rows : Tb} (G : Gs w rows) {k : Nat} (hk : k < rows.length) : ee (Gr rows) k k k ≤ Nq (rows.getD k []) := by
  have hm := List.mem_of_getElem? (ups_at hk)
  have h := sh_sq (x := rows.getD k []) (u := up (ups (rows.take k)) (rows.getD k [])) (by rw [G.wd.at hk, G.rt.wid _ hm]) (G.rt.nz _ hm)
  rw [sh_self G hk, ← ups_getD hk, ee_h G hk] at h
  grind
theorem de_le {w : Nat} {rows : Tb} (G : Gs w rows) {B : Rat} (hB : 1 ≤ B) (n : Nat) (hn : n ≤ rows.length) (hb : ∀ k, k < n → ee (Gr rows) k k k ≤ B) : ∀ k, k ≤ n → de (Gr rows) k ≤ Bp B k
  | 0, _ => Rat.le_refl
  | k + 1, hk => by
    have h1 := de_le G hB n hn hb k (by omega)
    have h2 := hb k hk
    have h3 := ee_pos G (show k < rows.length by omega)
    have h4 := Bp_pos hB k
    show de (Gr rows) k * ee (Gr rows) k k k ≤ Bp B k * B
    exact mul_le2 h1 h2 (by grind) (by grind)
/-- a share's square, by the row's square -/
theorem sh_bd {w : Nat} {rows : Tb} (G : Gs w rows) {k : Nat} (hk : k < rows.length) {x : List Int} (hx : x.length = w) : sh x ((ups rows).getD k []) * sh x ((ups rows).getD k []) ≤ Nq x * de (Gr rows) k := by
  have hm : (ups rows).getD k [] ∈ ups rows := by rw [ups_getD hk]; exact List.mem_of_getElem? (ups_at hk)
  have h1 := sh_sq (x := x) (u := (ups rows).getD k []) (by rw [hx, G.rt.wid _ hm]) (G.rt.nz _ hm)
  rw [ee_h G hk] at h1
  have h2 := de_one G (k := k + 1) hk
  have h3 := de_pos G k (by omega)
  have h4 : 1 ≤ de (Gr rows) k * ee (Gr rows) k k k := h2
  generalize sh x ((ups rows).getD k []) = s at *
  have h5 := mul_self_nn s
  have h6 := le_mul h4 h5
  have h7 := le_mul h1 (show 0 ≤ de (Gr rows) k by grind)
  grind
theorem near_sq (s : Rat) : ((near1 s : Int) : Rat) * ((near1 s : Int) : Rat) ≤ 2 * (s * s) + 1 := by
  have h := near1_hf s
  have h1 := h.1
  have h2 := h.2
  generalize ((near1 s : Int) : Rat) = o at *
  have h3 := Rat.mul_nonneg (show 0 ≤ 2 * (s - o) + 1 by grind) (show 0 ≤ 1 - 2 * (s - o) by grind)
  have h4 := mul_self_nn (s + (s - o))
  grind
theorem Nq_less {x y : List Int} (h : x.length = y.length) (o : Int) : Nq (lessM x o y) ≤ 2 * Nq x + 2 * ((o : Rat) * (o : Rat)) * Nq y := by
  have hl : (fq x).length = (fq y).length := by rw [fq_len, fq_len, h]
  have h1 := dq_nn (ax (o : Rat) (fq x) (fq y))
  rw [dq_ax _ _ _ _ hl, dq_ax_r _ _ _ _ hl, dq_ax_r _ _ _ _ hl] at h1
  unfold Nq
  rw [fq_less, dq_ax _ _ _ _ hl, dq_ax_r _ _ _ _ hl, dq_ax_r _ _ _ _ hl]
  have := dq_comm (fq x) (fq y)
  grind
/-- one turn: what is left grows at most so -/
theorem near_step {w : Nat} {rows : Tb} (G : Gs w rows) {B : Rat} (hB : 1 ≤ B) {k : Nat} (hk : k < rows.length) (hb : ∀ j, j < k → ee (Gr rows) j j j ≤ B) (hk2 : Nq (rows.getD k []) ≤ B) {x : List Int} (hx : x.length = w) :
    Nq (lessM x (near1 (sh x ((ups rows).getD k []))) (rows.getD k [])) + 1 ≤ (Nq x + 1) * (8 * Bp B 4) := by
  have h1 := sh_bd G hk hx
  have h2 := near_sq (sh x ((ups rows).getD k []))
  have h3 := Nq_less (x := x) (y := rows.getD k []) (by rw [hx, G.wd.at hk]) (near1 (sh x ((ups rows).getD k [])))
  have h4 := de_le G hB k (by omega) hb k (Nat.le_refl _)
  have h5 := de_pos G k (by omega)
  have n4 := G.n4
  have h6 : Bp B k * B ≤ Bp B 4 := Bp_mono hB (show k + 1 ≤ 4 by omega)
  have h7 : B ≤ Bp B 4 := by
    have := Bp_mono hB (show 1 ≤ 4 by decide)
    have e : Bp B 1 = B := by show 1 * B = B; grind
    rw [e] at this
    exact this
  have h8 := Nq_nn x
  have h9 := Nq_nn (rows.getD k [])
  generalize sh x ((ups rows).getD k []) = s at *
  generalize ((near1 s : Int) : Rat) * ((near1 s : Int) : Rat) = oo at *
  generalize Nq (lessM x (near1 s) (rows.getD k [])) = N' at *
  generalize Nq (rows.getD k []) = Y at *
  generalize Nq x = N at *
  generalize de (Gr rows) k = d at *
  generalize Bp B 4 = P at *
  have a1 : oo ≤ 2 * (N * d) + 1 := by grind
  have hp := mul_self_nn s
  have a2 : oo * Y ≤ (2 * (N * d) + 1) * B := mul_le2 a1 hk2 h9 (by have := Rat.mul_nonneg h8 (show 0 ≤ d by grind); grind)
  have a3 : d * B ≤ Bp B k * B := le_mul h4 (by grind)
  have a4 : (d * B) * N ≤ P * N := le_mul (by grind) h8
  have a5 : 1 * N ≤ P * N := le_mul (by grind) h8
  grind
theorem near_all {w : Nat} {rows : Tb} (G : Gs w rows) {B : Rat} (hB : 1 ≤ B) (hb : ∀ k, k < rows.length → Nq (rows.getD k []) ≤ B) {row : List Int} (hr : row.length = w) : ∀ i, i ≤ rows.length → Nq (nrI rows row i).2 + 1 ≤ (Nq row + 1) * Bp (8 * Bp B 4) i
  | 0, _ => by
    show Nq row + 1 ≤ (Nq row + 1) * 1
    grind
  | i + 1, hi => by
    have ih := near_all G hB hb hr i (by omega)
    have hk : rows.length - 1 - i < rows.length := by omega
    have hl := (nrI_len G.wd hr i (by omega)).1
    have h1 := near_step G hB hk (fun j hj => by
      have a := ee_le G (show j < rows.length by omega)
      have b := hb j (by omega)
      grind) (hb _ hk) hl
    have h2 := Bp_pos hB 4
    have h3 := le_mul ih (show 0 ≤ 8 * Bp B 4 by grind)
    show Nq (lessM (nrI rows row i).2 (near1 (sh (nrI rows row i).2 ((ups rows).getD (rows.length - 1 - i) []))) (rows.getD (rows.length - 1 - i) [])) + 1 ≤ (Nq row + 1) * (Bp (8 * Bp B 4) i * (8 * Bp B 4))
    grind
theorem sq_le_dot : ∀ {x : List Int} {z : Int}, z ∈ x → z * z ≤ dotI x x
  | a :: x, z, h => by
    rw [dotI_cons]
    have hn : 0 ≤ dotI x x := by
      have := dq_nn (fq x)
      rw [← dotI_q] at this
      have : ((0 : Int) : Rat) ≤ ((dotI x x : Int) : Rat) := this
      exact_mod_cast this
    rcases List.mem_cons.mp h with e | e
    · subst e; omega
    · have := sq_le_dot e
      have := Int.mul_self_le_mul_self (a := 0) (b := (a.natAbs : Int)) (by decide) (by omega)
      have e2 : a * a = (a.natAbs : Int) * (a.natAbs : Int) := (Int.natAbs_mul_self' a).symm
      omega
/-- numbers of a row, by its square -/
theorem row_bd {x : List Int} {m : Nat} (h : Nq x ≤ ((2 ^ (2 * m) : Nat) : Rat)) : ∀ z ∈ x, z.natAbs ≤ 2 ^ m := fun z hz => by
  have h1 := sq_le_dot hz
  rw [Nq_int] at h
  have h2 : ((dotI x x : Int) : Rat) ≤ (((2 ^ (2 * m) : Nat) : Int) : Rat) := h
  have h3 : dotI x x ≤ ((2 ^ (2 * m) : Nat) : Int) := by exact_mod_cast h2
  rw [← Int.natAbs_mul_self' z] at h1
  have h4 : z.natAbs * z.natAbs ≤ 2 ^ m * 2 ^ m := by
    rw [← Nat.pow_add, ← Nat.two_mul]
    have : ((z.natAbs * z.natAbs : Nat) : Int) ≤ ((2 ^ (2 * m) : Nat) : Int) := by rw [Int.natCast_mul]; omega
    exact_mod_cast this
  exact Nat.mul_self_le_mul_self_iff.mp h4
theorem Nq_le {x : List Int} {m l : Nat} (hl : x.length ≤ l) (h : ∀ z ∈ x, z.natAbs ≤ m) : Nq x ≤ ((l * (m * m) : Nat) : Rat) := by
  have := along_ov (D := 1) (N := m) (w := l) h (fun y hy => by
    obtain ⟨z, hz, rfl⟩ := List.mem_map.mp hy
    exact (Ov.int z).mono (h z hz)) (by rw [fq_len]; exact hl) (u := fq x)
  obtain ⟨z, e, hz⟩ := this
  unfold Nq
  have e1 : ((1 : Nat) : Rat) = 1 := rfl
  rw [e1, Rat.mul_one] at e
  rw [e]
  have h2 : z ≤ ((l * (m * m) : Nat) : Int) := by omega
  have : (z : Rat) ≤ (((l * (m * m) : Nat) : Int) : Rat) := by exact_mod_cast h2
  exact this
end Mi

/-! Rows made greater; what near needs. -/
set_option maxHeartbeats 4000000
namespace Mi
theorem Bp_nat (b : Nat) : ∀ k, Bp (b : Rat) k = ((b ^ k : Nat) : Rat)
  | 0 => rfl
  | k + 1 => by
    show Bp (b : Rat) k * (b : Rat) = _
    rw [Bp_nat b k, Nat.pow_succ, mul_rat]
theorem add_rat (a b : Nat) : ((a + b : Nat) : Rat) = (a : Rat) + (b : Rat) := by
  have : (((a + b : Nat) : Int) : Rat) = ((a : Int) : Rat) + ((b : Int) : Rat) := by rw [Int.natCast_add, Rat.intCast_add]
  exact this
theorem nat_le {a b : Nat} (h : a ≤ b) : (a : Rat) ≤ (b : Rat) := by
  have : ((a : Int) : Rat) ≤ ((b : Int) : Rat) := by
    have h2 : (a : Int) ≤ (b : Int) := by omega
    exact_mod_cast h2
  exact this
theorem pow_pow2 (a i : Nat) : (2 ^ a) ^ i = 2 ^ (a * i) := (Nat.pow_mul 2 a i).symm
theorem near_ok {w : Nat} {rows : Tb} (G : Gs w rows) (hb : ∀ k, k < rows.length → Nq (rows.getD k []) ≤ ((2 ^ 63 : Nat) : Rat)) {row : List Int} (hr : row.length = w) (h2 : Nq row ≤ ((2 ^ 100 : Nat) : Rat)) : ∀ i, i ≤ rows.length → ∀ x ∈ (nrI rows row i).2, x.natAbs ≤ 2 ^ 600 := fun i hi => by
  refine row_bd ?_
  have h := near_all G (B := ((2 ^ 63 : Nat) : Rat)) (nat_le (show 1 ≤ 2 ^ 63 by decide)) hb hr i hi
  have e1 : (8 : Rat) * Bp ((2 ^ 63 : Nat) : Rat) 4 = ((2 ^ 255 : Nat) : Rat) := by
    rw [Bp_nat]
    have : (8 : Rat) = ((8 : Nat) : Rat) := rfl
    rw [this, ← mul_rat]
  rw [e1, Bp_nat, pow_pow2] at h
  have h3 : (Nq row + 1) * ((2 ^ (255 * i) : Nat) : Rat) ≤ ((2 ^ 101 : Nat) : Rat) * ((2 ^ (255 * i) : Nat) : Rat) := by
    refine le_mul ?_ ?_
    · have a : ((2 ^ 100 + 1 : Nat) : Rat) = ((2 ^ 100 : Nat) : Rat) + 1 := add_rat _ _
      have b : ((2 ^ 100 + 1 : Nat) : Rat) ≤ ((2 ^ 101 : Nat) : Rat) := nat_le (by decide)
      rw [a] at b
      grind
    · exact nat_le (a := 0) (Nat.zero_le _)
  rw [← mul_rat, ← Nat.pow_add] at h3
  have h4 : ((2 ^ (101 + 255 * i) : Nat) : Rat) ≤ ((2 ^ (2 * 600) : Nat) : Rat) := nat_le (p2 (by have := G.n4; omega))
  have h5 : Nq (nrI rows row i).2 ≤ Nq (nrI rows row i).2 + 1 := by grind
  grind
/-! ### all numbers c times -/
def scale (c : Int) (rows : Tb) : Tb := rows.map fun r => r.map fun p => c * p
theorem fq_scale (c : Int) (r : List Int) : fq (r.map fun p => c * p) = (fq r).map fun p => (c : Rat) * p := by
  unfold fq
  rw [List.map_map, List.map_map]
  refine List.map_congr_left fun z _ => ?_
  show ((c * z : Int) : Rat) = (c : Rat) * (z : Rat)
  rw [Rat.intCast_mul]
theorem dq_scale (c : Rat) : ∀ x y : List Rat, dq (x.map fun p => c * p) (y.map fun p => c * p) = c * c * dq x y
  | [], y => by show (0 : Rat) = c * c * 0; grind
  | _ :: _, [] => by show (0 : Rat) = c * c * 0; grind
  | a :: x, b :: y => by
    have ih := dq_scale c x y
    show c * a * (c * b) + dq (x.map _) (y.map _) = c * c * (a * b + dq x y)
    rw [ih]
    grind
theorem scale_getD (c : Int) (rows : Tb) (i : Nat) : (scale c rows).getD i [] = (rows.getD i []).map fun p => c * p := by
  unfold scale
  rw [List.getD_eq_getElem?_getD, List.getElem?_map, List.getD_eq_getElem?_getD]
  cases rows[i]? <;> rfl
theorem Gr_scale (c : Int) (rows : Tb) (i j : Nat) : Gr (scale c rows) i j = (c : Rat) * (c : Rat) * Gr rows i j := by
  unfold Gr
  rw [scale_getD, scale_getD, fq_scale, fq_scale, dq_scale]
theorem gd_scale {G H : Nat → Nat → Rat} {c : Rat} (h : ∀ i j, H i j = c * G i j) : ∀ n, n ≤ 4 → gd H n = Bp c n * gd G n
  | 0, _ => by show (1 : Rat) = 1 * 1; grind
  | 1, _ => by show H 0 0 = 1 * c * G 0 0; rw [h]; grind
  | 2, _ => by show H 0 0 * H 1 1 - H 1 0 * H 1 0 = 1 * c * c * (G 0 0 * G 1 1 - G 1 0 * G 1 0); rw [h, h, h]; grind
  | 3, _ => by show m3 H 2 2 = 1 * c * c * c * m3 G 2 2; unfold m3; simp only [h]; grind
  | 4, _ => by show m4 H 3 3 = 1 * c * c * c * c * m4 G 3 3; unfold m4; simp only [h]; grind
  | n + 5, h => by omega
theorem Bp_nz {c : Rat} (h : c ≠ 0) : ∀ n, Bp c n ≠ 0
  | 0 => by show (1 : Rat) ≠ 0; decide
  | n + 1 => fun z => by
    have z : Bp c n * c = 0 := z
    rcases Rat.mul_eq_zero.mp z with e | e
    · exact Bp_nz h n e
    · exact h e
theorem scale_wd {c : Int} {rows : Tb} {w : Nat} (W : Wd w rows) : Wd w (scale c rows) := fun r hr => by
  obtain ⟨q, hq, rfl⟩ := List.mem_map.mp hr
  rw [List.length_map]
  exact W q hq
theorem Good.scale {rows : Tb} (h : Good rows) {c : Int} (h1 : 1 ≤ c) (h2 : c ≤ 2 ^ 20) : ∃ w, 0 < w ∧ Gs w (scale c rows) ∧ (∀ k, k < (Mi.scale c rows).length → Nq ((Mi.scale c rows).getD k []) ≤ ((2 ^ 63 : Nat) : Rat)) := by
  obtain ⟨n0, n4, ⟨w, w0, w5, R⟩, v⟩ := h
  have hl : (Mi.scale c rows).length = rows.length := List.length_map ..
  have hx : ∀ r ∈ Mi.scale c rows, ∀ x ∈ r, x.natAbs ≤ 2 ^ 30 := fun r hr x hx => by
    obtain ⟨q, hq, rfl⟩ := List.mem_map.mp hr
    obtain ⟨z, hz, rfl⟩ := List.mem_map.mp hx
    rw [Int.natAbs_mul]
    have a := R.bd q hq z hz
    have b : c.natAbs ≤ 2 ^ 20 := by omega
    exact Nat.le_trans (Nat.mul_le_mul b a) (by decide)
  have hw := scale_wd (c := c) R.wid
  have hcr : (c : Rat) * (c : Rat) ≠ 0 := fun z => by
    rcases Rat.mul_eq_zero.mp z with e | e <;> · have := rat_int0 e; omega
  refine ⟨w, w0, ⟨by omega, by omega, w5, hw, fun i hi x hx2 => ?_, fun r hr x hx2 => ?_, ?_⟩, fun k hk => ?_⟩
  · exact Nat.le_trans (hx _ (getD_mem (by omega)) x hx2) (by decide)
  · exact Nat.le_trans (hx r hr x hx2) (p2 (by decide))
  · refine gd_nz hw (by omega) ?_
    rw [hl, gd_scale (fun i j => Gr_scale c rows i j) _ n4]
    intro z
    rcases Rat.mul_eq_zero.mp z with e | e
    · exact Bp_nz hcr _ e
    · have := vol_gd R.wid n4
      rw [e] at this
      exact v (rat_int0 this)
  · have := Nq_le (l := 5) (by rw [hw.at hk]; exact w5) (hx _ (getD_mem hk))
    refine Rat.le_trans this (nat_le (by decide))
end Mi
namespace Mi
/-- what near_and_rest needs -/
def NrOk (rows : Tb) (row : List Int) : Prop := ∃ w, Gs w rows ∧ row.length = w ∧ ∀ i, i ≤ rows.length → ∀ x ∈ (nrI rows row i).2, x.natAbs ≤ 2 ^ 600
/-- the weights that make a row, if any -/
def wofM (rows : Tb) (row : List Int) : Option (List Int) := if (restM rows row).any (fun x => !decide (x = 0)) then none else some (nearM rows row)
theorem near1_bits {q : Rat} (h : Sz q) : (near1 q).natAbs < 2 ^ 4402 := by
  have hd := q.den_pos
  have e : near1 q = (2 * q.num + (q.den : Int)).fdiv (2 * (q.den : Int)) := by rw [Int.fdiv_eq_ediv_of_nonneg _ (by omega)]; rfl
  rw [e]
  refine Nat.lt_of_le_of_lt (fdiv_le _ _ (by omega)) ?_
  have h1 := h.n
  have h2 := h.d
  have e2 : (2 : Nat) ^ 4402 = 2 ^ 4400 * 2 ^ 2 := Nat.pow_add 2 4400 2
  rw [e2]
  generalize (2 : Nat) ^ 4400 = X at *
  omega
end Mi
namespace Mi
theorem rowM_bits {n wide high : Int} (h : 0 ≤ high) : (rowM n wide high).length = wide.toNat ∧ ∀ x ∈ rowM n wide high, x.natAbs ≤ high.toNat := by
  unfold rowM
  refine ⟨by rw [List.length_map, rgI_len], fun x hx => ?_⟩
  obtain ⟨k, _, rfl⟩ := List.mem_map.mp hx
  have h0 := Int.emod_nonneg (drawn n k / 4) (show 2 * high + 1 ≠ 0 by omega)
  have h1 := Int.emod_lt_of_pos (drawn n k / 4) (show 0 < 2 * high + 1 by omega)
  generalize drawn n k / 4 % (2 * high + 1) = z at *
  omega
theorem scale_bits {rows : Tb} (h : Good rows) {c : Int} (h1 : 1 ≤ c) (h2 : c ≤ 2 ^ 20) {r : List Int} (hr : r ∈ scale c rows) {x : Int} (hx : x ∈ r) : x.natAbs < 2 ^ 64 := by
  obtain ⟨w, w0, w5, R⟩ := h.w
  obtain ⟨q, hq, rfl⟩ := List.mem_map.mp hr
  obtain ⟨z, hz, rfl⟩ := List.mem_map.mp hx
  rw [Int.natAbs_mul]
  have a := R.bd q hq z hz
  have b : c.natAbs ≤ 2 ^ 20 := by omega
  exact Nat.lt_of_le_of_lt (Nat.mul_le_mul b a) (by decide)
/-- what is left: the row less what the weights make -/
theorem rest_eq {w : Nat} {rows : Tb} (W : Wd w rows) (h0 : 0 < rows.length) {row : List Int} (h : row.length = w) : ((row.zip (madeM rows (nearM rows row))).map fun x => x.1 - x.2) = restM rows row := by
  have hm : (madeM rows (nearM rows row)).length = w := madeM_len W h0
  have hr : (restM rows row).length = w := (nrI_len W h rows.length (Nat.le_refl _)).1
  refine list_ext (by rw [List.length_map, List.length_zip, h, hm, hr, Nat.min_self]) fun k hk => ?_
  rw [List.length_map, List.length_zip, h, hm, Nat.min_self] at hk
  have e := rest_at W h0 h k hk
  have hz : k < (row.zip (madeM rows (nearM rows row))).length := by rw [List.length_zip, h, hm, Nat.min_self]; exact hk
  rw [List.getD_eq_getElem?_getD, List.getElem?_map, List.getElem?_eq_getElem hz, List.getElem_zip]
  rw [List.getD_eq_getElem?_getD (l := madeM _ _), List.getElem?_eq_getElem (by omega), List.getD_eq_getElem?_getD (l := row), List.getElem?_eq_getElem (by omega)] at e
  show row[k] - (madeM rows (nearM rows row))[k] = _
  have e : (restM rows row).getD k 0 + (madeM rows (nearM rows row))[k] = row[k] := e
  omega
/-- no share of what is left is more than one half -/
theorem rest_hf {w : Nat} {rows : Tb} (G : Gs w rows) {row : List Int} (h : row.length = w) : ∀ u ∈ ups rows, bigM (sh (restM rows row) u) = false := fun u hu => by
  obtain ⟨j, hj⟩ := List.mem_iff_getElem?.mp hu
  have hl : j < rows.length := by rw [← ups_len]; exact (List.getElem?_eq_some_iff.mp hj).1
  have := nrI_hf G h rows.length (Nat.le_refl _) j hl (by omega)
  rw [getD_of hj] at this
  exact this.big
end Mi
namespace Mi
/-! ### weights told again -/
theorem tot_app (xs ys : List Rat) : tot (xs ++ ys) = tot xs + tot ys := by
  induction xs with
  | nil => show tot ys = 0 + tot ys; grind
  | cons x xs ih => rw [List.cons_append, tot_cons, tot_cons, ih]; grind
theorem madeF_dq {w : Nat} (z : List Rat) : ∀ (l : List (Int × List Int)) (f : List Int), (∀ p ∈ l, p.2.length = w) → f.length = w → dq (fq (madeF l f)) z = dq (fq f) z + tot (l.map fun p => (p.1 : Rat) * dq (fq p.2) z)
  | [], f, _, _ => by show dq (fq f) z = dq (fq f) z + 0; grind
  | p :: l, f, hl, h => by
    have hp := hl p List.mem_cons_self
    have ih := madeF_dq z l ((f.zip p.2).map fun q => q.1 + p.1 * q.2) (fun q hq => hl q (List.mem_cons_of_mem _ hq)) (by rw [addw_len _ (h.trans hp.symm), h])
    show dq (fq (madeF l _)) z = _
    rw [ih, fq_zip, dq_ax _ _ _ _ (by rw [fq_len, fq_len, h, hp]), List.map_cons, tot_cons]
    grind
theorem fq_zeros (n : Nat) (z : List Rat) : dq (fq (List.replicate n 0)) z = 0 := dq_zero_l _ fun a ha => by
  obtain ⟨b, hb, rfl⟩ := List.mem_map.mp ha
  rw [(List.mem_replicate.mp hb).2]
  rfl
theorem madeM_dq {w : Nat} {rows : Tb} (W : Wd w rows) (h0 : 0 < rows.length) (ws : List Int) (z : List Rat) : dq (fq (madeM rows ws)) z = tot ((ws.zip rows).map fun p => (p.1 : Rat) * dq (fq p.2) z) := by
  have := madeF_dq (w := w) z (ws.zip rows) (List.replicate (rows.getD 0 []).length 0) (zip_wd W) (by rw [List.length_replicate, W.at h0])
  rw [fq_zeros] at this
  show dq (fq (madeF _ _)) z = _
  rw [this]
  grind
theorem near1_int (z : Int) : near1 (z : Rat) = z := by
  have h1 : ((z : Rat)).num = z := rfl
  have h2 : ((z : Rat)).den = 1 := rfl
  show (2 * (z : Rat).num + ((z : Rat).den : Int)) / (2 * ((z : Rat).den : Int)) = z
  rw [h1, h2]
  omega
theorem near1_den {q : Rat} (h : q.den = 1) : near1 q = q.num ∧ ((q.num : Int) : Rat) = q := by
  have e : ((q.num : Int) : Rat) = q := by
    have := cast_rat q
    rw [h] at this
    have e1 : ((1 : Nat) : Rat) = 1 := rfl
    rw [e1, Rat.mul_one] at this
    exact this.symm
  refine ⟨?_, e⟩
  have := near1_int q.num
  rw [e] at this
  exact this
/-- turn i and those behind it: the share at place n - 1 - i -/
theorem nrI_sh {w : Nat} {rows : Tb} (G : Gs w rows) {row : List Int} (h : row.length = w) (i : Nat) (hi : i < rows.length) : ∀ j, i < j → j ≤ rows.length → sh (nrI rows row j).2 ((ups rows).getD (rows.length - 1 - i) []) = sh (nrI rows row i).2 ((ups rows).getD (rows.length - 1 - i) []) - ((near1 (sh (nrI rows row i).2 ((ups rows).getD (rows.length - 1 - i) [])) : Int) : Rat)
  | 0, h1, _ => by omega
  | j + 1, h1, h2 => by
    have hl := (nrI_len G.wd h j (by omega)).1
    have hk : rows.length - 1 - j < rows.length := by omega
    have hki : rows.length - 1 - i < rows.length := by omega
    have hnz := G.rt.nz _ (List.mem_of_getElem? (ups_at hki))
    have hll : (nrI rows row j).2.length = (rows.getD (rows.length - 1 - j) []).length := by rw [hl, G.wd.at hk]
    show sh (lessM (nrI rows row j).2 _ (rows.getD (rows.length - 1 - j) [])) _ = _
    rw [ups_getD hki]
    rw [sh_less hll hnz]
    by_cases e : j = i
    · subst e
      rw [sh_self G hki, ups_getD hki]
      grind
    · rw [sh_ahead G hki (show rows.length - 1 - j < rows.length - 1 - i by omega)]
      have := nrI_sh G h i hi j (by omega) (by omega)
      rw [ups_getD hki] at this
      rw [this]
      grind
theorem sh_zero {x : List Int} {u : List Rat} (h : ∀ a ∈ x, a = 0) (h0 : dq u u ≠ 0) : sh x u = 0 := by
  unfold sh
  rw [dq_zero_l u fun a ha => by
    obtain ⟨b, hb, rfl⟩ := List.mem_map.mp ha
    rw [h b hb]
    rfl]
  exact div_eq h0 (by grind)
/-- nothing is left: each share was whole -/
theorem wof_whole {w : Nat} {rows : Tb} (G : Gs w rows) {row : List Int} (h : row.length = w) (hz : ∀ a ∈ restM rows row, a = 0) (i : Nat) (hi : i < rows.length) : (sh (nrI rows row i).2 ((ups rows).getD (rows.length - 1 - i) [])).den = 1 := by
  have hki : rows.length - 1 - i < rows.length := by omega
  have h1 := nrI_sh G h i hi rows.length hi (Nat.le_refl _)
  have hnz : dq ((ups rows).getD (rows.length - 1 - i) []) ((ups rows).getD (rows.length - 1 - i) []) ≠ 0 := by
    rw [ups_getD hki]
    exact G.rt.nz _ (List.mem_of_getElem? (ups_at hki))
  have h2 := sh_zero hz hnz
  have h1 : sh (restM rows row) ((ups rows).getD (rows.length - 1 - i) []) = _ := h1
  rw [h2] at h1
  generalize sh (nrI rows row i).2 ((ups rows).getD (rows.length - 1 - i) []) = s at *
  have : s = ((near1 s : Int) : Rat) := by grind
  rw [this]
  rfl
theorem wof_none {w : Nat} {rows : Tb} (G : Gs w rows) {row : List Int} (h : row.length = w) {i : Nat} (hi : i < rows.length) (hd : (sh (nrI rows row i).2 ((ups rows).getD (rows.length - 1 - i) [])).den ≠ 1) : wofM rows row = none := by
  unfold wofM
  by_cases hz : (restM rows row).any (fun x => !decide (x = 0)) = true
  · rw [if_pos hz]
  · refine absurd (wof_whole G h (fun a ha => ?_) i hi) hd
    have := mt List.any_eq_true.mpr hz
    by_cases e : a = 0
    · exact e
    · exact absurd ⟨a, ha, by rw [decide_eq_false e]; rfl⟩ this
theorem wof_made {w : Nat} {rows : Tb} (G : Gs w rows) {row : List Int} (h : row.length = w) {ws : List Int} (e : wofM rows row = some ws) : ws.length = rows.length ∧ madeM rows ws = row := by
  unfold wofM at e
  by_cases hz : (restM rows row).any (fun x => !decide (x = 0)) = true
  · rw [if_pos hz] at e; cases e
  · rw [if_neg hz] at e
    have e := Option.some.inj e
    subst e
    have h0 := G.n0
    refine ⟨(nrI_len G.wd h rows.length (Nat.le_refl _)).2, ?_⟩
    have hm : (madeM rows (nearM rows row)).length = w := madeM_len G.wd h0
    refine list_ext (by rw [hm, h]) fun k hk => ?_
    have e1 := rest_at G.wd h0 h k (by omega)
    have hr : (restM rows row).length = w := (nrI_len G.wd h rows.length (Nat.le_refl _)).1
    have hz2 : (restM rows row).getD k 0 = 0 := by
      have hk2 : k < (restM rows row).length := by omega
      rw [List.getD_eq_getElem?_getD, List.getElem?_eq_getElem hk2]
      show (restM rows row)[k] = 0
      by_cases e : (restM rows row)[k] = 0
      · exact e
      · exact absurd (List.any_eq_true.mpr ⟨_, List.getElem_mem hk2, by rw [decide_eq_false e]; rfl⟩) hz
    omega
theorem sh_tot (u : List Rat) (h0 : dq u u ≠ 0) {x : List Int} {l : List (Int × List Int)} (h : dq (fq x) u = tot (l.map fun p => (p.1 : Rat) * dq (fq p.2) u)) : sh x u = tot (l.map fun p => (p.1 : Rat) * sh p.2 u) := by
  unfold sh
  refine div_eq h0 ?_
  rw [h]
  clear h
  induction l with
  | nil => show (0 : Rat) * _ = 0; grind
  | cons p l ih =>
    rw [List.map_cons, List.map_cons, tot_cons, tot_cons, ← ih]
    have : dq (fq p.2) u / dq u u * dq u u = dq (fq p.2) u := Rat.div_mul_cancel h0
    grind
/-- the row that weights make: the very weights -/
theorem nrI_made {w : Nat} {rows : Tb} (G : Gs w rows) {ws : List Int} (hw : ws.length = rows.length) : ∀ i, i ≤ rows.length → (nrI rows (madeM rows ws) i).1 = ws.drop (rows.length - i) ∧ ∀ z, dq (fq (nrI rows (madeM rows ws) i).2) z = tot (((ws.zip rows).take (rows.length - i)).map fun p => (p.1 : Rat) * dq (fq p.2) z)
  | 0, _ => by
    refine ⟨by rw [Nat.sub_zero, ← hw, List.drop_length]; rfl, fun z => ?_⟩
    rw [Nat.sub_zero, List.take_of_length_le (by rw [List.length_zip]; omega)]
    exact madeM_dq G.wd G.n0 ws z
  | i + 1, hi => by
    obtain ⟨h1, h2⟩ := nrI_made G hw i (by omega)
    have hml : (madeM rows ws).length = w := madeM_len G.wd G.n0
    have hl := (nrI_len G.wd hml i (by omega)).1
    obtain ⟨k, hk⟩ : ∃ k, rows.length - 1 - i = k := ⟨_, rfl⟩
    have hkn : k < rows.length := by omega
    have hkw : k < ws.length := by omega
    have hs : rows.length - i = k + 1 := by omega
    have hs2 : rows.length - (i + 1) = k := by omega
    rw [hs] at h1 h2
    have hz : (ws.zip rows)[k]? = some (ws[k], rows.getD k []) := by
      rw [List.getElem?_eq_getElem (by rw [List.length_zip]; omega), List.getElem_zip, getD_of (List.getElem?_eq_getElem hkn)]
    have hnz : dq ((ups rows).getD k []) ((ups rows).getD k []) ≠ 0 := by
      rw [ups_getD hkn]
      exact G.rt.nz _ (List.mem_of_getElem? (ups_at hkn))
    have hsh : sh (nrI rows (madeM rows ws) i).2 ((ups rows).getD k []) = ((ws[k] : Int) : Rat) := by
      rw [sh_tot _ hnz (h2 _), List.take_add_one, hz]
      show tot ((((ws.zip rows).take k) ++ [(ws[k], rows.getD k [])]).map _) = _
      rw [List.map_append, tot_app]
      have e1 : tot (((ws.zip rows).take k).map fun p => (p.1 : Rat) * sh p.2 ((ups rows).getD k [])) = 0 := by
        have key : ∀ l : List (Int × List Int), (∀ p ∈ l, sh p.2 ((ups rows).getD k []) = 0) → tot (l.map fun p => (p.1 : Rat) * sh p.2 ((ups rows).getD k [])) = 0 := by
          intro l
          induction l with
          | nil => intro _; rfl
          | cons p l ih => intro hp; rw [List.map_cons, tot_cons, ih fun q hq => hp q (List.mem_cons_of_mem _ hq), hp p List.mem_cons_self]; grind
        refine key _ fun p hp => ?_
        obtain ⟨j, hj⟩ := List.mem_iff_getElem?.mp hp
        rw [List.getElem?_take] at hj
        by_cases hjk : j < k
        · rw [if_pos hjk, List.getElem?_eq_getElem (by rw [List.length_zip]; omega), List.getElem_zip] at hj
          rw [← Option.some.inj hj]
          show sh (rows[j]) _ = 0
          have := sh_ahead G hkn hjk
          rw [getD_of (List.getElem?_eq_getElem (show j < rows.length by omega)), ← ups_getD hkn] at this
          exact this
        · rw [if_neg hjk] at hj; cases hj
      rw [e1, List.map_cons, List.map_nil, tot_cons]
      show 0 + (((ws[k] : Int) : Rat) * sh (rows.getD k []) ((ups rows).getD k []) + 0) = _
      rw [ups_getD hkn, sh_self G hkn]
      grind
    have ho : near1 (sh (nrI rows (madeM rows ws) i).2 ((ups rows).getD k [])) = ws[k] := by rw [hsh, near1_int]
    constructor
    · show near1 (sh (nrI rows (madeM rows ws) i).2 ((ups rows).getD (rows.length - 1 - i) [])) :: (nrI rows (madeM rows ws) i).1 = _
      rw [hk, ho, h1, hs2, ← List.drop_eq_getElem_cons hkw]
    · intro z
      show dq (fq (lessM (nrI rows (madeM rows ws) i).2 (near1 (sh (nrI rows (madeM rows ws) i).2 ((ups rows).getD (rows.length - 1 - i) []))) (rows.getD (rows.length - 1 - i) []))) z = _
      rw [hk, ho, fq_less, dq_ax _ _ _ _ (by rw [fq_len, fq_len, hl, G.wd.at hkn]), h2 z, hs2, List.take_add_one, hz]
      show tot ((((ws.zip rows).take k) ++ [(ws[k], rows.getD k [])]).map _) + _ = _
      rw [List.map_append, tot_app, List.map_cons, List.map_nil, tot_cons]
      show _ + (((ws[k] : Int) : Rat) * dq (fq (rows.getD k [])) z + 0) + _ = _
      grind
theorem wof_self {w : Nat} {rows : Tb} (G : Gs w rows) {ws : List Int} (hw : ws.length = rows.length) : wofM rows (madeM rows ws) = some ws := by
  obtain ⟨h1, h2⟩ := nrI_made G hw rows.length (Nat.le_refl _)
  rw [Nat.sub_self] at h1 h2
  have hz : ∀ a ∈ restM rows (madeM rows ws), a = 0 := fun a ha => by
    have h3 := h2 (fq (restM rows (madeM rows ws)))
    have h4 := dq_z (x := fq (restM rows (madeM rows ws))) h3 (a : Rat) (List.mem_map.mpr ⟨a, ha, rfl⟩)
    exact rat_int0 h4
  unfold wofM
  rw [if_neg (fun z => by
    obtain ⟨a, ha, hn⟩ := List.any_eq_true.mp z
    rw [hz a ha] at hn
    simp at hn)]
  show some (nrI rows (madeM rows ws) rows.length).1 = some ws
  rw [h1, List.drop_zero]
end Mi
namespace Mi
theorem scale_bits30 {rows : Tb} (h : Good rows) {c : Int} (h1 : 1 ≤ c) (h2 : c ≤ 2 ^ 20) {r : List Int} (hr : r ∈ scale c rows) {x : Int} (hx : x ∈ r) : x.natAbs ≤ 2 ^ 30 := by
  obtain ⟨w, w0, w5, R⟩ := h.w
  obtain ⟨q, hq, rfl⟩ := List.mem_map.mp hr
  obtain ⟨z, hz, rfl⟩ := List.mem_map.mp hx
  rw [Int.natAbs_mul]
  have a := R.bd q hq z hz
  have b : c.natAbs ≤ 2 ^ 20 := by omega
  exact Nat.le_trans (Nat.mul_le_mul b a) (by decide)
theorem weightsM_bits {n m : Int} : ∀ x ∈ weightsM n m, x.natAbs ≤ 50 := by
  unfold weightsM
  simp only
  have hh : 1 ≤ ([1, 2, 3, 50] : List Int).getD (n % 4).toNat 0 ∧ ([1, 2, 3, 50] : List Int).getD (n % 4).toNat 0 ≤ 50 := by
    have h0 := Int.emod_nonneg n (show (4 : Int) ≠ 0 by decide)
    have h1 := Int.emod_lt_of_pos n (show (0 : Int) < 4 by decide)
    generalize n % 4 = z at *
    rcases (show z = 0 ∨ z = 1 ∨ z = 2 ∨ z = 3 by omega) with h | h | h | h <;> subst h <;> decide
  generalize ([1, 2, 3, 50] : List Int).getD (n % 4).toNat 0 = hi at *
  intro x hx
  obtain ⟨k, _, rfl⟩ := List.mem_map.mp hx
  have h0 := Int.emod_nonneg (drawn n (30 + k) / 4) (show 2 * hi + 1 ≠ 0 by omega)
  have h1 := Int.emod_lt_of_pos (drawn n (30 + k) / 4) (show 0 < 2 * hi + 1 by omega)
  generalize drawn n (30 + k) / 4 % (2 * hi + 1) = z at *
  omega
theorem made_bits {w : Nat} {rows : Tb} (W : Wd w rows) (h0 : 0 < rows.length) (h4 : rows.length ≤ 4) {ws : List Int} (hw : ws.length = rows.length) (hb : ∀ x ∈ ws, x.natAbs ≤ 50) (hr : ∀ r ∈ rows, ∀ x ∈ r, x.natAbs ≤ 2 ^ 30) : ∀ x ∈ madeM rows ws, x.natAbs ≤ 2 ^ 38 := fun x hx => by
  obtain ⟨k, hk, rfl⟩ := List.getElem_of_mem hx
  have hml : (madeM rows ws).length = w := madeM_len W h0
  have e := madeM_get (ws := ws) W h0 k (by omega)
  rw [List.getD_eq_getElem?_getD, List.getElem?_eq_getElem hk] at e
  have e : (madeM rows ws)[k] = _ := e
  rw [e]
  have := sum_bd (50 * 2 ^ 30) ((ws.zip rows).map fun p => p.1 * p.2.getD k 0) (fun y hy => by
    obtain ⟨p, hp, rfl⟩ := List.mem_map.mp hy
    have hm := List.of_mem_zip hp
    rw [Int.natAbs_mul]
    refine Nat.mul_le_mul (hb _ hm.1) ?_
    have hl : k < p.2.length := by rw [W _ hm.2]; omega
    rw [List.getD_eq_getElem?_getD, List.getElem?_eq_getElem hl]
    exact hr _ hm.2 _ (List.getElem_mem hl))
  rw [List.length_map, List.length_zip] at this
  refine Nat.le_trans this ?_
  have h5 : min ws.length rows.length ≤ 4 := by omega
  exact Nat.le_trans (Nat.mul_le_mul_right _ h5) (by decide)
theorem filter_anyI {f : Int → Bool} (xs : List Int) : (!decide ((xs.filter f).map (fun x => x) = [])) = xs.any f := by
  rw [List.map_id']
  cases h : xs.any f with
  | true =>
    have : xs.filter f ≠ [] := fun z => by
      obtain ⟨x, hx, hf⟩ := List.any_eq_true.mp h
      have := List.mem_filter.mpr ⟨hx, hf⟩
      rw [z] at this
      cases this
    rw [decide_eq_false this]
    rfl
  | false =>
    have : xs.filter f = [] := by
      rw [List.filter_eq_nil_iff]
      intro x hx hf
      have := List.any_eq_true.mpr ⟨x, hx, hf⟩
      rw [h] at this
      cases this
    rw [decide_eq_true this]
    rfl
end Mi

/-! Rows made trim: what is kept. -/
set_option maxHeartbeats 4000000
namespace Mi
abbrev Pr := List Int × List Int
def rw (ps : List Pr) : Tb := ps.map (·.1)
def trI (ps : List Pr) (a : Nat) : Nat → Pr
  | 0 => ps.getD a ([], [])
  | i + 1 =>
    let t := trI ps a i
    let k := a - 1 - i
    let o := near1 (sh t.1 ((ups ((rw ps).take a)).getD k []))
    (lessM t.1 o (ps.getD k ([], [])).1, lessM t.2 o (ps.getD k ([], [])).2)
def trimmedM (ps : List Pr) (a : Nat) : Pr := trI ps a a
/-! ### made, place by place, is straight -/
theorem zip_less_sum {c : List Int → Int} : ∀ (a b : List Int) (rows : Tb) (o : Int), a.length = rows.length → b.length = rows.length →
    (((lessM a o b).zip rows).map fun p => p.1 * c p.2).sum = ((a.zip rows).map fun p => p.1 * c p.2).sum - o * ((b.zip rows).map fun p => p.1 * c p.2).sum
  | [], [], [], o, _, _ => by show (0 : Int) = 0 - o * 0; omega
  | x :: a, y :: b, r :: rows, o, h1, h2 => by
    have ih := zip_less_sum (c := c) a b rows o (by simpa using h1) (by simpa using h2)
    show ((((x - o * y) :: lessM a o b).zip (r :: rows)).map _).sum = _
    rw [List.zip_cons_cons, List.zip_cons_cons, List.zip_cons_cons, List.map_cons, List.map_cons, List.map_cons, List.sum_cons, List.sum_cons, List.sum_cons]
    have ih : (((lessM a o b).zip rows).map fun p => p.1 * c p.2).sum = ((a.zip rows).map fun p => p.1 * c p.2).sum - o * ((b.zip rows).map fun p => p.1 * c p.2).sum := ih
    show (x - o * y) * c r + (((lessM a o b).zip rows).map fun p => p.1 * c p.2).sum = x * c r + _ - o * (y * c r + _)
    rw [ih]
    grind
  | [], _ :: _, _, _, h1, h2 => by simp at h1 h2; omega
  | _ :: _, [], _, _, h1, h2 => by simp at h1 h2; omega
  | _ :: _, _ :: _, [], _, h1, _ => by simp at h1
  | [], [], _ :: _, _, h1, _ => by simp at h1
theorem made_less {w : Nat} {rows : Tb} (W : Wd w rows) (h0 : 0 < rows.length) {a b : List Int} (ha : a.length = rows.length) (hb : b.length = rows.length) (o : Int) : madeM rows (lessM a o b) = lessM (madeM rows a) o (madeM rows b) := by
  have l1 : (madeM rows (lessM a o b)).length = w := madeM_len W h0
  have l2 : (madeM rows a).length = w := madeM_len W h0
  have l3 : (madeM rows b).length = w := madeM_len W h0
  refine list_ext (by rw [l1, lessM_len (by rw [l2, l3]), l2]) fun k hk => ?_
  rw [l1] at hk
  rw [lessM_get o (by rw [l2, l3]) k (by omega), madeM_get W h0 k hk, madeM_get W h0 k hk, madeM_get W h0 k hk]
  exact zip_less_sum (c := fun r => r.getD k 0) a b rows o ha hb
/-- made by whole weights -/
def InL (rows : Tb) (x : List Int) : Prop := ∃ ws : List Int, ws.length = rows.length ∧ madeM rows ws = x
theorem InL.less {w : Nat} {rows : Tb} (W : Wd w rows) (h0 : 0 < rows.length) {x y : List Int} (o : Int) : InL rows x → InL rows y → InL rows (lessM x o y) := fun ⟨a, ha, hx⟩ ⟨b, hb, hy⟩ =>
  ⟨lessM a o b, by rw [lessM_len (by rw [ha, hb]), ha], by rw [made_less W h0 ha hb, hx, hy]⟩
theorem InL.len {w : Nat} {rows : Tb} (W : Wd w rows) (h0 : 0 < rows.length) {x : List Int} : InL rows x → x.length = w := fun ⟨a, _, hx⟩ => by rw [← hx]; exact madeM_len W h0
/-- the weights of one row -/
def unitW (n j : Nat) : List Int := (List.range n).map fun k => if k = j then 1 else 0
theorem unit_sum {c : List Int → Int} : ∀ (rows : Tb) (j s : Nat), ((((List.range' s rows.length).map fun k => if k = s + j then (1 : Int) else 0).zip rows).map fun p => p.1 * c p.2).sum = if j < rows.length then c (rows.getD j []) else 0
  | [], j, s => by simp
  | r :: rows, 0, s => by
    rw [List.length_cons, List.range'_succ, List.map_cons, List.zip_cons_cons, List.map_cons, List.sum_cons]
    have key : ∀ (l : Tb) (t : Nat), s < t → ((((List.range' t l.length).map fun k => if k = s + 0 then (1 : Int) else 0).zip l).map fun p => p.1 * c p.2).sum = 0 := by
      intro l
      induction l with
      | nil => intro t _; simp
      | cons q l ih =>
        intro t ht
        rw [List.length_cons, List.range'_succ, List.map_cons, List.zip_cons_cons, List.map_cons, List.sum_cons, ih (t + 1) (by omega), if_neg (by omega)]
        simp
    rw [key rows (s + 1) (by omega)]
    simp
  | r :: rows, j + 1, s => by
    rw [List.length_cons, List.range'_succ, List.map_cons, List.zip_cons_cons, List.map_cons, List.sum_cons, if_neg (by omega)]
    have ih := unit_sum (c := c) rows j (s + 1)
    rw [show s + 1 + j = s + (j + 1) by omega] at ih
    rw [ih]
    by_cases h : j < rows.length
    · rw [if_pos h, if_pos (by omega)]
      simp
    · rw [if_neg h, if_neg (by omega)]
      simp
theorem unit_made {w : Nat} {rows : Tb} (W : Wd w rows) {j : Nat} (hj : j < rows.length) : madeM rows (unitW rows.length j) = rows.getD j [] := by
  have h0 : 0 < rows.length := by omega
  have l1 : (madeM rows (unitW rows.length j)).length = w := madeM_len W h0
  refine list_ext (by rw [l1, W.at hj]) fun k hk => ?_
  rw [madeM_get W h0 k (by omega)]
  have := unit_sum (c := fun r => r.getD k 0) rows j 0
  rw [if_pos hj, Nat.zero_add, ← List.range_eq_range'] at this
  exact this
theorem InL.row {w : Nat} {rows : Tb} (W : Wd w rows) {r : List Int} (h : r ∈ rows) : InL rows r := by
  obtain ⟨j, hj, rfl⟩ := List.getElem_of_mem h
  exact ⟨unitW rows.length j, by unfold unitW; rw [List.length_map, List.length_range], by rw [unit_made W hj, getD_of (List.getElem?_eq_getElem hj)]⟩
theorem less_self (x : List Int) : lessM x 1 x = List.replicate x.length 0 := by
  induction x with
  | nil => rfl
  | cons a x ih =>
    show (a - 1 * a) :: lessM x 1 x = 0 :: List.replicate x.length 0
    rw [ih]
    congr 1
    omega
theorem add_less (c : Int) (x y : List Int) : ((x.zip y).map fun q => q.1 + c * q.2) = lessM x (-c) y := by
  unfold lessM
  refine List.map_congr_left fun p _ => ?_
  rw [Int.neg_mul]
  omega
theorem InL.trans {w : Nat} {rows rows' : Tb} (W : Wd w rows) (W' : Wd w rows') (h0 : 0 < rows.length) (h0' : 0 < rows'.length) (h : ∀ r ∈ rows, InL rows' r) {x : List Int} : InL rows x → InL rows' x := fun ⟨ws, _, hx⟩ => by
  rw [← hx]
  have hz : InL rows' (List.replicate (rows.getD 0 []).length 0) := by
    have h1 := h _ (getD_mem h0)
    rw [← less_self]
    exact InL.less W' h0' 1 h1 h1
  have key : ∀ (l : List (Int × List Int)) (f : List Int), (∀ p ∈ l, InL rows' p.2) → InL rows' f → InL rows' (madeF l f) := by
    intro l
    induction l with
    | nil => exact fun f _ hf => hf
    | cons p l ih =>
      intro f hl hf
      refine ih _ (fun q hq => hl q (List.mem_cons_of_mem _ hq)) ?_
      show InL rows' ((f.zip p.2).map fun q => q.1 + p.1 * q.2)
      rw [add_less]
      exact InL.less W' h0' _ hf (hl p List.mem_cons_self)
  exact key _ _ (fun p hp => h _ (List.of_mem_zip hp).2) hz
/-! ### the first few rows -/
theorem Gr_take {rows : Tb} {m i j : Nat} (hi : i < m) (hj : j < m) : Gr (rows.take m) i j = Gr rows i j := by
  unfold Gr
  have e : ∀ i, i < m → (rows.take m).getD i [] = rows.getD i [] := fun i hi => by
    rw [List.getD_eq_getElem?_getD, List.getD_eq_getElem?_getD, List.getElem?_take, if_pos hi]
  rw [e i hi, e j hj]
theorem ee_congr {G H : Nat → Nat → Rat} {n : Nat} (h : ∀ i j, i < n → j < n → G i j = H i j) : ∀ k, ∀ i j, k < n → i < n → j < n → ee G k i j = ee H k i j
  | 0, i, j, _, hi, hj => h i j hi hj
  | k + 1, i, j, hk, hi, hj => by
    show ee G k i j - ee G k i k * ee G k j k / ee G k k k = ee H k i j - ee H k i k * ee H k j k / ee H k k k
    rw [ee_congr h k i j (by omega) hi hj, ee_congr h k i k (by omega) hi (by omega), ee_congr h k j k (by omega) hj (by omega), ee_congr h k k k (by omega) (by omega) (by omega)]
theorem de_congr {G H : Nat → Nat → Rat} {n : Nat} (h : ∀ i j, i < n → j < n → G i j = H i j) : ∀ k, k ≤ n → de G k = de H k
  | 0, _ => rfl
  | k + 1, hk => by
    show de G k * ee G k k k = de H k * ee H k k k
    rw [de_congr h k (by omega), ee_congr h k k k hk hk hk]
theorem de_take {rows : Tb} {m k : Nat} (hk : k ≤ m) : de (Gr (rows.take m)) k = de (Gr rows) k := de_congr (n := m) (fun i j hi hj => Gr_take hi hj) k hk
theorem Wd.take {w : Nat} {rows : Tb} (W : Wd w rows) (m : Nat) : Wd w (rows.take m) := fun r hr => W r (List.mem_of_mem_take hr)
theorem Gs.take {w : Nat} {rows : Tb} (G : Gs w rows) {m : Nat} (h0 : 0 < m) (hm : m ≤ rows.length) : Gs w (rows.take m) := by
  have hl : (rows.take m).length = m := by rw [List.length_take]; omega
  have e : ∀ i, i < m → (rows.take m).getD i [] = rows.getD i [] := fun i hi => by
    rw [List.getD_eq_getElem?_getD, List.getD_eq_getElem?_getD, List.getElem?_take, if_pos hi]
  refine ⟨by omega, by have := G.n4; omega, G.w5, G.wd.take m, fun i hi => ?_, fun r hr => G.bl r (List.mem_of_mem_take hr), fun k hk => ?_⟩
  · rw [e i (by omega)]
    exact G.bd i (by omega)
  · rw [de_take (by omega)]
    exact G.nz k (by omega)
/-- the numbers of the tables of the first few -/
theorem vp_de {w : Nat} {rows : Tb} (G : Gs w rows) {m : Nat} (hm : m ≤ rows.length) : (vol (rows.take m) : Rat) = de (Gr rows) m := by
  have hl : (rows.take m).length = m := by rw [List.length_take]; omega
  have h4 := G.n4
  rw [vol_gd (G.wd.take m) (by omega), hl, ← de_gd (by omega) (fun k hk => by rw [de_take hk]; exact G.nz k (by omega)), de_take (Nat.le_refl _)]
theorem vp_pos {w : Nat} {rows : Tb} (G : Gs w rows) {m : Nat} (hm : m ≤ rows.length) : 0 < vol (rows.take m) := by
  have h := de_pos G m hm
  rw [← vp_de G hm] at h
  have : ((0 : Int) : Rat) < ((vol (rows.take m) : Int) : Rat) := h
  exact_mod_cast this
theorem take_set_lt {α : Type} {xs : List α} {a m : Nat} {x : α} (h : a < m) : (xs.set a x).take m = (xs.take m).set a x := List.take_set ..
theorem take_set_ge {α : Type} {xs : List α} {a m : Nat} {x : α} (h : m ≤ a) : (xs.set a x).take m = xs.take m := by
  rw [List.take_set, List.set_eq_of_length_le (by rw [List.length_take]; omega)]
/-- one row less another one: the first few tables keep their numbers -/
theorem vp_less {w : Nat} {rows : Tb} (W : Wd w rows) (h4 : rows.length ≤ 4) {a k : Nat} (ha : a < rows.length) (hk : k < a) (o : Int) (m : Nat) : vol ((rows.set a (lessM (rows.getD a []) o (rows.getD k []))).take m) = vol (rows.take m) := by
  by_cases h : a < m
  · rw [take_set_lt h]
    have e : ∀ i, i < m → (rows.take m).getD i [] = rows.getD i [] := fun i hi => by
      rw [List.getD_eq_getElem?_getD, List.getD_eq_getElem?_getD, List.getElem?_take, if_pos hi]
    have := vol_op (W.take m) (by rw [List.length_take]; omega) (i := a) (j := k) (by rw [List.length_take]; omega) (by rw [List.length_take]; omega) (by omega) (-o)
    rw [e a h, e k (by omega), add_less, Int.neg_neg] at this
    exact this
  · rw [take_set_ge (by omega)]
/-- a list of rows with tables that are not nought -/
theorem gs_mk {w : Nat} {rows : Tb} (n0 : 0 < rows.length) (n4 : rows.length ≤ 4) (w5 : w ≤ 5) (W : Wd w rows) (bd : ∀ i, i + 1 < rows.length → ∀ x ∈ rows.getD i [], x.natAbs ≤ 2 ^ 40) (bl : ∀ r ∈ rows, ∀ x ∈ r, x.natAbs ≤ 2 ^ 600) (hv : vol rows ≠ 0) : Gs w rows := ⟨n0, n4, w5, W, bd, bl, (vol_nz n4).mp hv⟩
theorem Gs.vol {w : Nat} {rows : Tb} (G : Gs w rows) : vol rows ≠ 0 := (vol_nz G.n4).mpr G.nz
/-- heights by the tables' numbers -/
theorem ee_vp {w : Nat} {rows : Tb} (G : Gs w rows) {k : Nat} (hk : k < rows.length) : ee (Gr rows) k k k = (Mi.vol (rows.take (k + 1)) : Rat) / (Mi.vol (rows.take k) : Rat) := by
  rw [vp_de G (by omega), vp_de G (by omega)]
  refine (div_eq (G.nz k (by omega)) ?_).symm
  show _ = de (Gr rows) k * ee (Gr rows) k k k
  grind
/-- the square, by shares -/
theorem parseval {w : Nat} {us : List (List Rat)} (R : Rt w us) {r : List Int} (h : r.length = w) : Nq r = dq (up us r) (up us r) + tot (us.map fun u => sh r u * sh r u * dq u u) := by
  have h1 := up_dq_rt R h (z := up us r) (fun u hu => by rw [dq_comm]; exact up_rt R h u hu)
  have h2 := up_dq R h (fq r)
  rw [dq_comm, ← h1] at h2
  have e : tot (us.map fun u => sh r u * dq u (fq r)) = tot (us.map fun u => sh r u * sh r u * dq u u) := by
    congr 1
    refine List.map_congr_left fun u hu => ?_
    have : sh r u * dq u u = dq (fq r) u := Rat.div_mul_cancel (R.nz u hu)
    rw [dq_comm u, ← this]
    grind
  rw [e] at h2
  unfold Nq
  grind
theorem tot_bd {B : Rat} : ∀ (xs : List Rat), (∀ x ∈ xs, x ≤ B) → tot xs ≤ (xs.length : Rat) * B
  | [], _ => by
    show (0 : Rat) ≤ ((0 : Nat) : Rat) * B
    have : ((0 : Nat) : Rat) = 0 := rfl
    grind
  | x :: xs, h => by
    have ih := tot_bd xs fun y hy => h y (List.mem_cons_of_mem _ hy)
    have hx := h x List.mem_cons_self
    rw [tot_cons, List.length_cons, add_rat]
    have : ((1 : Nat) : Rat) = 1 := rfl
    grind
end Mi
namespace Mi
/-! ### the state of trim -/
theorem rw_getD (ps : List Pr) (k : Nat) : (rw ps).getD k [] = (ps.getD k ([], [])).1 := by
  unfold rw
  rw [List.getD_eq_getElem?_getD, List.getElem?_map, List.getD_eq_getElem?_getD]
  cases ps[k]? <;> rfl
theorem rw_len (ps : List Pr) : (rw ps).length = ps.length := List.length_map ..
theorem rw_set (ps : List Pr) (a : Nat) (p : Pr) : rw (ps.set a p) = (rw ps).set a p.1 := by unfold rw; rw [List.map_set]
theorem trI_1 (ps : List Pr) {a : Nat} (ha : a < ps.length) : ∀ i, i ≤ a → (trI ps a i).1 = (nrI ((rw ps).take a) ((rw ps).getD a []) i).2
  | 0, _ => (rw_getD ps a).symm
  | i + 1, hi => by
    have ih := trI_1 ps ha i (by omega)
    have hl : ((rw ps).take a).length = a := by rw [List.length_take, rw_len]; omega
    have hk : a - 1 - i < a := by omega
    have e : ((rw ps).take a).getD (a - 1 - i) [] = (ps.getD (a - 1 - i) ([], [])).1 := by
      rw [← rw_getD, List.getD_eq_getElem?_getD, List.getD_eq_getElem?_getD, List.getElem?_take, if_pos hk]
    show lessM (trI ps a i).1 (near1 (sh (trI ps a i).1 ((ups ((rw ps).take a)).getD (a - 1 - i) []))) (ps.getD (a - 1 - i) ([], [])).1 = lessM (nrI ((rw ps).take a) ((rw ps).getD a []) i).2 (near1 (sh (nrI ((rw ps).take a) ((rw ps).getD a []) i).2 ((ups ((rw ps).take a)).getD (((rw ps).take a).length - 1 - i) []))) (((rw ps).take a).getD (((rw ps).take a).length - 1 - i) [])
    rw [hl, ih, e]
structure PI (rows0 : Tb) (w : Nat) (ps : List Pr) : Prop where
  len : ps.length = rows0.length
  gs : Gs w (rw ps)
  vol : vol (rw ps) = vol rows0
  wl : ∀ p ∈ ps, p.2.length = rows0.length
  md : ∀ p ∈ ps, madeM rows0 p.2 = p.1
  nq : ∀ p ∈ ps, Nq p.1 ≤ ((2 ^ 25 : Nat) : Rat)
  hh : ∀ k, k < ps.length → ee (Gr (rw ps)) k k k ≤ ((2 ^ 23 : Nat) : Rat)
  bk : ∀ r ∈ rows0, InL (rw ps) r
theorem gd_mem {ps : List Pr} {k : Nat} (h : k < ps.length) : ps.getD k ([], []) ∈ ps := by
  rw [getD_of (List.getElem?_eq_getElem h)]
  exact List.getElem_mem h
theorem less_back {x y : List Int} (h : x.length = y.length) (o : Int) : lessM (lessM x o y) (-o) y = x := by
  have la : (lessM x o y).length = x.length := lessM_len h
  refine list_ext (by rw [lessM_len (by rw [la, h]), la]) fun k hk => ?_
  rw [lessM_len (by rw [la, h]), la] at hk
  rw [lessM_get _ (by rw [la, h]) k (by omega), lessM_get _ h k hk, Int.neg_mul]
  omega
/-- along the turns of trimmed -/
structure TrS (rows0 : Tb) (w : Nat) (ps : List Pr) (a i : Nat) : Prop where
  l1 : (trI ps a i).1.length = w
  l2 : (trI ps a i).2.length = rows0.length
  md : madeM rows0 (trI ps a i).2 = (trI ps a i).1
  nq : Nq (trI ps a i).1 ≤ ((2 ^ 700 : Nat) : Rat)
  vp : ∀ m, vol (((rw ps).set a (trI ps a i).1).take m) = vol ((rw ps).take m)
  il : ∀ r ∈ rw ps, InL ((rw ps).set a (trI ps a i).1) r
theorem big_row {x : List Int} {m : Nat} (h : Nq x ≤ ((2 ^ m : Nat) : Rat)) (hm : m ≤ 1200) : ∀ z ∈ x, z.natAbs ≤ 2 ^ 600 := row_bd (Rat.le_trans h (nat_le (p2 (by omega))))
theorem set_self {ps : List Pr} {a : Nat} (ha : a < ps.length) : (rw ps).set a (ps.getD a ([], [])).1 = rw ps := by
  rw [← rw_getD]
  refine List.ext_getElem (by rw [List.length_set]) fun k h1 h2 => ?_
  rw [List.getElem_set]
  split
  · rename_i h
    subst h
    exact getD_of (List.getElem?_eq_getElem h2)
  · rfl
theorem nq_nat {n : Nat} {x : Rat} (h : x ≤ ((2 ^ n : Nat) : Rat)) {m : Nat} (k : n ≤ m) : x ≤ ((2 ^ m : Nat) : Rat) := Rat.le_trans h (nat_le (p2 k))
theorem PI.tr {rows0 : Tb} {w : Nat} {ps : List Pr} (P : PI rows0 w ps) (W0 : Wd w rows0) {a : Nat} (ha : a < ps.length) (ha0 : 0 < a) : ∀ i, i ≤ a → TrS rows0 w ps a i
  | 0, _ => by
    have hm := gd_mem ha
    have e : trI ps a 0 = ps.getD a ([], []) := rfl
    refine ⟨?_, ?_, ?_, ?_, fun m => ?_, fun r hr => ?_⟩ <;> rw [e]
    · rw [← rw_getD]; exact P.gs.wd.at (by rw [rw_len]; exact ha)
    · exact P.wl _ hm
    · exact P.md _ hm
    · exact nq_nat (P.nq _ hm) (by decide)
    · rw [set_self ha]
    · rw [set_self ha]
      exact InL.row P.gs.wd hr
  | i + 1, hi => by
    have T := P.tr W0 ha ha0 i (by omega)
    have h0 : 0 < rows0.length := by rw [← P.len]; omega
    have hk : a - 1 - i < a := by omega
    have hkp : a - 1 - i < ps.length := by omega
    have hkm := gd_mem hkp
    obtain ⟨o, ho⟩ : ∃ o, near1 (sh (trI ps a i).1 ((ups ((rw ps).take a)).getD (a - 1 - i) [])) = o := ⟨_, rfl⟩
    have e : trI ps a (i + 1) = (lessM (trI ps a i).1 o (ps.getD (a - 1 - i) ([], [])).1, lessM (trI ps a i).2 o (ps.getD (a - 1 - i) ([], [])).2) := by
      show (lessM (trI ps a i).1 (near1 (sh (trI ps a i).1 ((ups ((rw ps).take a)).getD (a - 1 - i) []))) _, lessM (trI ps a i).2 (near1 (sh (trI ps a i).1 ((ups ((rw ps).take a)).getD (a - 1 - i) []))) _) = _
      rw [ho]
    have wk : (ps.getD (a - 1 - i) ([], [])).1.length = w := by rw [← rw_getD]; exact P.gs.wd.at (by rw [rw_len]; exact hkp)
    have hal : a < (rw ps).length := by rw [rw_len]; exact ha
    have Wi : Wd w ((rw ps).set a (trI ps a i).1) := P.gs.wd.set T.l1
    have hli : ((rw ps).set a (trI ps a i).1).length = ps.length := by rw [List.length_set, rw_len]
    have h4 : ps.length ≤ 4 := by have := P.gs.n4; rw [rw_len] at this; exact this
    have g1 : ((rw ps).set a (trI ps a i).1).getD a [] = (trI ps a i).1 := by rw [getD_set hal, if_pos rfl]
    have g2 : ((rw ps).set a (trI ps a i).1).getD (a - 1 - i) [] = (ps.getD (a - 1 - i) ([], [])).1 := by rw [getD_set hal, if_neg (by omega), rw_getD]
    have g3 : ((rw ps).set a (trI ps a i).1).set a (lessM (trI ps a i).1 o (ps.getD (a - 1 - i) ([], [])).1) = (rw ps).set a (lessM (trI ps a i).1 o (ps.getD (a - 1 - i) ([], [])).1) := List.set_set ..
    have Wn : Wd w ((rw ps).set a (lessM (trI ps a i).1 o (ps.getD (a - 1 - i) ([], [])).1)) := P.gs.wd.set (by rw [lessM_len (by rw [T.l1, wk]), T.l1])
    refine ⟨?_, ?_, ?_, ?_, fun m => ?_, fun r hr => ?_⟩ <;> rw [e]
    · show (lessM _ _ _).length = w
      rw [lessM_len (by rw [T.l1, wk]), T.l1]
    · show (lessM _ _ _).length = _
      rw [lessM_len (by rw [T.l2, P.wl _ hkm]), T.l2]
    · show madeM rows0 (lessM _ _ _) = lessM _ _ _
      rw [made_less W0 h0 T.l2 (P.wl _ hkm), T.md, P.md _ hkm]
    · have hc := congrArg Prod.fst e
      have hc : (trI ps a (i + 1)).1 = lessM (trI ps a i).1 o (ps.getD (a - 1 - i) ([], [])).1 := hc
      show Nq (lessM _ _ _) ≤ _
      rw [← hc, trI_1 ps ha (i + 1) hi]
      have Gt := P.gs.take ha0 (show a ≤ (rw ps).length by rw [rw_len]; omega)
      have hlt : ((rw ps).take a).length = a := by rw [List.length_take, rw_len]; omega
      have hN := near_all Gt (B := ((2 ^ 25 : Nat) : Rat)) (nat_le (show 1 ≤ 2 ^ 25 by decide)) (fun k hk => by
        rw [hlt] at hk
        rw [List.getD_eq_getElem?_getD, List.getElem?_take, if_pos hk, ← List.getD_eq_getElem?_getD, rw_getD]
        exact P.nq _ (gd_mem (by omega))) (row := (rw ps).getD a []) (P.gs.wd.at hal) (i + 1) (by rw [hlt]; exact hi)
      have e1 : (8 : Rat) * Bp ((2 ^ 25 : Nat) : Rat) 4 = ((2 ^ 103 : Nat) : Rat) := by
        rw [Bp_nat]
        have : (8 : Rat) = ((8 : Nat) : Rat) := rfl
        rw [this, ← mul_rat]
      rw [e1, Bp_nat, pow_pow2] at hN
      have hq : Nq ((rw ps).getD a []) ≤ ((2 ^ 25 : Nat) : Rat) := by rw [rw_getD]; exact P.nq _ (gd_mem ha)
      have h3 : (Nq ((rw ps).getD a []) + 1) * ((2 ^ (103 * (i + 1)) : Nat) : Rat) ≤ ((2 ^ 26 : Nat) : Rat) * ((2 ^ (103 * (i + 1)) : Nat) : Rat) := by
        refine le_mul ?_ (nat_le (a := 0) (Nat.zero_le _))
        have a1 : ((2 ^ 25 + 1 : Nat) : Rat) = ((2 ^ 25 : Nat) : Rat) + 1 := add_rat _ _
        have b : ((2 ^ 25 + 1 : Nat) : Rat) ≤ ((2 ^ 26 : Nat) : Rat) := nat_le (by decide)
        rw [a1] at b
        grind
      rw [← mul_rat, ← Nat.pow_add] at h3
      have h5 : ((2 ^ (26 + 103 * (i + 1)) : Nat) : Rat) ≤ ((2 ^ 700 : Nat) : Rat) := nat_le (p2 (by omega))
      grind
    · show Mi.vol (((rw ps).set a (lessM (trI ps a i).1 o (ps.getD (a - 1 - i) ([], [])).1)).take m) = _
      rw [← T.vp m]
      have := vp_less Wi (by omega) (a := a) (k := a - 1 - i) (by omega) hk o m
      rw [g1, g2, g3] at this
      exact this
    · show InL ((rw ps).set a (lessM (trI ps a i).1 o (ps.getD (a - 1 - i) ([], [])).1)) r
      refine InL.trans Wi Wn (by omega) (by rw [List.length_set, rw_len]; omega) (fun q hq => ?_) (T.il r hr)
      have hal2 : a < ((rw ps).set a (lessM (trI ps a i).1 o (ps.getD (a - 1 - i) ([], [])).1)).length := by rw [List.length_set]; exact hal
      have m1 : lessM (trI ps a i).1 o (ps.getD (a - 1 - i) ([], [])).1 ∈ (rw ps).set a (lessM (trI ps a i).1 o (ps.getD (a - 1 - i) ([], [])).1) := by
        have := getD_mem hal2
        rw [getD_set hal, if_pos rfl] at this
        exact this
      have m2 : (ps.getD (a - 1 - i) ([], [])).1 ∈ (rw ps).set a (lessM (trI ps a i).1 o (ps.getD (a - 1 - i) ([], [])).1) := by
        have := getD_mem (r := (rw ps).set a (lessM (trI ps a i).1 o (ps.getD (a - 1 - i) ([], [])).1)) (i := a - 1 - i) (by rw [List.length_set, rw_len]; exact hkp)
        rw [getD_set hal, if_neg (by omega), rw_getD] at this
        exact this
      rcases List.mem_or_eq_of_mem_set hq with z | z
      · obtain ⟨j, hj, rfl⟩ := List.getElem_of_mem z
        by_cases hja : j = a
        · -- the old row a, which is no longer asked for: it is made of what stands now
          subst hja
          have := T.il ((rw ps)[j]) (List.getElem_mem hj)
          have q1 := List.getElem_mem hj
          -- it is a row of the list only if it stands elsewhere too
          obtain ⟨t, ht, ht2⟩ := List.getElem_of_mem hq
          rw [List.getElem_set] at ht2
          split at ht2
          · rw [← ht2]
            have q2 := InL.less Wn (by rw [List.length_set, rw_len]; omega) (-o) (InL.row Wn m1) (InL.row Wn m2)
            have q3 := less_back (x := (trI ps j i).1) (y := (ps.getD (j - 1 - i) ([], [])).1) (by rw [T.l1, wk]) o
            rw [q3] at q2
            exact q2
          · rw [← ht2]
            refine InL.row Wn ?_
            rename_i hne
            have hts : t < (rw ps).length := by rw [List.length_set] at ht; exact ht
            have := getD_mem (r := (rw ps).set j (lessM (trI ps j i).1 o (ps.getD (j - 1 - i) ([], [])).1)) (i := t) (by rw [List.length_set]; exact hts)
            rw [getD_set hal, if_neg (fun z => hne z.symm), getD_of (List.getElem?_eq_getElem hts)] at this
            exact this
        · refine InL.row Wn ?_
          have := getD_mem (r := (rw ps).set a (lessM (trI ps a i).1 o (ps.getD (a - 1 - i) ([], [])).1)) (i := j) (by rw [List.length_set]; exact hj)
          rw [getD_set hal, if_neg hja, getD_of (List.getElem?_eq_getElem hj)] at this
          exact this
      · rw [z]
        have q2 := InL.less Wn (by rw [List.length_set, rw_len]; omega) (-o) (InL.row Wn m1) (InL.row Wn m2)
        have q3 := less_back (x := (trI ps a i).1) (y := (ps.getD (a - 1 - i) ([], [])).1) (by rw [T.l1, wk]) o
        rw [q3] at q2
        exact q2
end Mi

/-! Rows made trim: the turns. -/
set_option maxHeartbeats 4000000
namespace Mi
theorem enumI_take {α : Type} (xs : List α) (k : Nat) : (enumI xs).take k = enumI (xs.take k) := by
  refine List.ext_getElem? fun i => ?_
  rw [List.getElem?_take]
  by_cases h : i < k
  · rw [if_pos h]
    cases e : xs[i]? with
    | none =>
      have : xs.length ≤ i := List.getElem?_eq_none_iff.mp e
      rw [List.getElem?_eq_none (by rw [enumI_len]; omega), List.getElem?_eq_none (by rw [enumI_len, List.length_take]; omega)]
    | some x => rw [enumI_at e, enumI_at (by rw [List.getElem?_take, if_pos h]; exact e)]
  · rw [if_neg h, List.getElem?_eq_none (by rw [enumI_len, List.length_take]; omega)]
theorem shsM_take (rows : Tb) (k : Nat) : (shsM rows).take k = shsM (rows.take k) := by
  unfold shsM
  rw [← List.map_take, enumI_take]
  refine List.map_congr_left fun p hp => ?_
  obtain ⟨i, hi⟩ := List.mem_iff_getElem?.mp hp
  obtain ⟨h1, h2⟩ := enumI_get hi
  rw [List.getElem?_take] at h2
  by_cases h : i < k
  · rw [h1, show ((i : Int)).toNat = i by omega, ← ups_take, List.take_take, Nat.min_eq_left (by omega)]
  · rw [if_neg h] at h2; cases h2
theorem hgtM_take (rows : Tb) (k : Nat) : (hgtM rows).take k = hgtM (rows.take k) := by
  unfold hgtM
  rw [← List.map_take, ups_take]
theorem getD_take {α : Type} {xs : List α} {k i : Nat} (h : i < k) (d : α) : (xs.take k).getD i d = xs.getD i d := by
  rw [List.getD_eq_getElem?_getD, List.getElem?_take, if_pos h, ← List.getD_eq_getElem?_getD]
theorem trim_take (rows : Tb) (k : Nat) : ((enumI (shsM rows)).take k).all (trimB (hgtM rows)) = trimM (rows.take k) := by
  unfold trimM
  rw [enumI_take, shsM_take, ← hgtM_take]
  have key : ∀ p ∈ enumI (shsM (rows.take k)), trimB (hgtM rows) p = trimB ((hgtM rows).take k) p := fun p hp => by
    obtain ⟨i, hi⟩ := List.mem_iff_getElem?.mp hp
    obtain ⟨h1, h2⟩ := enumI_get hi
    have hl : i < (shsM (rows.take k)).length := (List.getElem?_eq_some_iff.mp h2).1
    rw [← shsM_take, List.length_take] at hl
    unfold trimB
    rw [h1, getD_take (by omega), getD_take (by omega)]
  generalize enumI (shsM (rows.take k)) = l at *
  induction l with
  | nil => rfl
  | cons p l ih => rw [List.all_cons, List.all_cons, key p List.mem_cons_self, ih fun q hq => key q (List.mem_cons_of_mem _ hq)]
theorem trim_one {w : Nat} {rows : Tb} (G : Gs w rows) : trimM (rows.take 1) = true := by
  rw [← trim_take]
  exact trim_first G
/-- one row more is trim -/
theorem trim_more {w : Nat} {rows : Tb} (G : Gs w rows) {i : Nat} (hi : i + 1 < rows.length) (h : trimM (rows.take (i + 1)) = true) {b : Bool} (hb : (!((((ups rows).take (i + 1)).map fun u => sh (rows.getD (i + 1) []) u).any bigM) && standM ((hgtM rows).getD i 0) ((hgtM rows).getD (i + 1) 0) ((((ups rows).take (i + 1)).map fun u => sh (rows.getD (i + 1) []) u).getD i 0)) = b) : trimM (rows.take (i + 1 + 1)) = b := by
  rw [← trim_take] at h ⊢
  exact trim_next (shs_get G hi) (by rw [List.length_map, List.length_take, ups_len]; omega) h hb
/-- fewer rows are trim -/
theorem trim_less {rows : Tb} {j k : Nat} (hjk : j ≤ k) (h : trimM (rows.take k) = true) : trimM (rows.take j) = true := by
  rw [← trim_take] at h ⊢
  have e : (enumI (shsM rows)).take j = ((enumI (shsM rows)).take k).take j := by rw [List.take_take, Nat.min_eq_left hjk]
  rw [e]
  rw [List.all_eq_true] at h ⊢
  exact fun x hx => h x (List.mem_of_mem_take hx)
theorem hgt_ee {w : Nat} {rows : Tb} (G : Gs w rows) {k : Nat} (hk : k < rows.length) : (hgtM rows).getD k 0 = ee (Gr rows) k k k := by
  rw [← ee_h G hk]
  unfold hgtM
  refine getD_of ?_
  rw [List.getElem?_map, ups_at hk, ups_getD hk]
  rfl
theorem bits40 {x : List Int} (h : Nq x ≤ ((2 ^ 25 : Nat) : Rat)) : ∀ z ∈ x, z.natAbs ≤ 2 ^ 40 := row_bd (nq_nat h (by decide))
theorem bits13 {x : List Int} (h : Nq x ≤ ((2 ^ 25 : Nat) : Rat)) : ∀ z ∈ x, z.natAbs ≤ 2 ^ 13 := row_bd (nq_nat h (by decide))
theorem half_sq {s h B : Rat} (hs : Hf s) (h0 : 0 ≤ h) (hB : h ≤ B) : s * s * h ≤ B := by
  have h1 := hs.1
  have h2 := hs.2
  have h3 := Rat.mul_nonneg (show 0 ≤ 2 * s + 1 by grind) (show 0 ≤ 1 - 2 * s by grind)
  have h4 : s * s ≤ 1 := by grind
  have h5 := le_mul h4 h0
  grind
/-- behind trimmed -/
theorem PI.red {rows0 : Tb} {w : Nat} {ps : List Pr} (P : PI rows0 w ps) (W0 : Wd w rows0) {a : Nat} (ha : a < ps.length) (ha0 : 0 < a) :
    PI rows0 w (ps.set a (trimmedM ps a)) ∧ (∀ m, Mi.vol ((rw (ps.set a (trimmedM ps a))).take m) = Mi.vol ((rw ps).take m)) ∧
    (((ups (rw (ps.set a (trimmedM ps a)))).take a).map fun u => sh ((rw (ps.set a (trimmedM ps a))).getD a []) u).any bigM = false := by
  have T := P.tr W0 ha ha0 a (Nat.le_refl _)
  have hal : a < (rw ps).length := by rw [rw_len]; exact ha
  have n4 : ps.length ≤ 4 := by have := P.gs.n4; rw [rw_len] at this; exact this
  rw [rw_set]
  have hvp : ∀ m, Mi.vol (((rw ps).set a (trimmedM ps a).1).take m) = Mi.vol ((rw ps).take m) := T.vp
  have hlen : ((rw ps).set a (trimmedM ps a).1).length = ps.length := by rw [List.length_set, rw_len]
  have hwd : Wd w ((rw ps).set a (trimmedM ps a).1) := P.gs.wd.set T.l1
  have hvol : Mi.vol ((rw ps).set a (trimmedM ps a).1) = Mi.vol (rw ps) := by
    have := hvp ps.length
    rw [List.take_of_length_le (by omega), List.take_of_length_le (by rw [rw_len]; omega)] at this
    exact this
  have hga : ((rw ps).set a (trimmedM ps a).1).getD a [] = (trimmedM ps a).1 := by rw [getD_set hal, if_pos rfl]
  have htk : ((rw ps).set a (trimmedM ps a).1).take a = (rw ps).take a := take_set_ge (Nat.le_refl _)
  -- with rough sizes first
  have hrough : ∀ i, i < ps.length → ∀ x ∈ ((rw ps).set a (trimmedM ps a).1).getD i [], x.natAbs ≤ 2 ^ 600 := fun i hi x hx => by
    rw [getD_set hal] at hx
    split at hx
    · exact big_row T.nq (by decide) x hx
    · exact P.gs.bl _ (getD_mem (by rw [rw_len]; exact hi)) x hx
  have Gt := P.gs.take ha0 (show a ≤ (rw ps).length by omega)
  have hlt : ((rw ps).take a).length = a := by rw [List.length_take, rw_len]; omega
  have hde : ∀ m, m ≤ ps.length → de (Gr ((rw ps).set a (trimmedM ps a).1)) m ≠ 0 := fun m hm => (vol_nz (by omega)).mp (by rw [hvol]; exact P.gs.vol) m (by omega)
  -- the square of the new row
  have hx1 : (trimmedM ps a).1 = restM ((rw ps).take a) ((rw ps).getD a []) := by
    have := trI_1 ps ha a (Nat.le_refl _)
    unfold restM
    rw [hlt]
    exact this
  have hhf : ∀ u ∈ ups ((rw ps).take a), Hf (sh (trimmedM ps a).1 u) := fun u hu => by
    obtain ⟨j, hj⟩ := List.mem_iff_getElem?.mp hu
    have hl : j < a := by
      have := (List.getElem?_eq_some_iff.mp hj).1
      rw [ups_len, hlt] at this
      exact this
    have := nrI_hf Gt (row := (rw ps).getD a []) (P.gs.wd.at hal) a (by omega) j (by omega) (by omega)
    rw [getD_of hj] at this
    rw [hx1]
    unfold restM
    rw [hlt]
    exact this
  have hee : ∀ k, k < ps.length → ee (Gr ((rw ps).set a (trimmedM ps a).1)) k k k = ee (Gr (rw ps)) k k k := fun k hk => by
    have e1 : de (Gr ((rw ps).set a (trimmedM ps a).1)) k * ee (Gr ((rw ps).set a (trimmedM ps a).1)) k k k = de (Gr (rw ps)) k * ee (Gr (rw ps)) k k k := by
      show de (Gr ((rw ps).set a (trimmedM ps a).1)) (k + 1) = de (Gr (rw ps)) (k + 1)
      have a1 : de (Gr ((rw ps).set a (trimmedM ps a).1)) (k + 1) = (Mi.vol (((rw ps).set a (trimmedM ps a).1).take (k + 1)) : Rat) := by
        have hl2 : (((rw ps).set a (trimmedM ps a).1).take (k + 1)).length = k + 1 := by rw [List.length_take, hlen]; omega
        rw [vol_gd (hwd.take _) (by omega), hl2, ← de_gd (by omega) (fun j hj => by rw [de_take hj]; exact hde j (by omega)), de_take (Nat.le_refl _)]
      rw [a1, hvp, vp_de P.gs (by rw [rw_len]; omega)]
    have e2 : de (Gr ((rw ps).set a (trimmedM ps a).1)) k = de (Gr (rw ps)) k := by
      have a1 : de (Gr ((rw ps).set a (trimmedM ps a).1)) k = (Mi.vol (((rw ps).set a (trimmedM ps a).1).take k) : Rat) := by
        have hl2 : (((rw ps).set a (trimmedM ps a).1).take k).length = k := by rw [List.length_take, hlen]; omega
        rw [vol_gd (hwd.take _) (by omega), hl2, ← de_gd (by omega) (fun j hj => by rw [de_take hj]; exact hde j (by omega)), de_take (Nat.le_refl _)]
      rw [a1, hvp, vp_de P.gs (by rw [rw_len]; omega)]
    rw [e2] at e1
    exact canc (P.gs.nz k (by rw [rw_len]; omega)) e1
  have hnq : Nq (trimmedM ps a).1 ≤ ((2 ^ 25 : Nat) : Rat) := by
    have hp := parseval (us := ups ((rw ps).take a)) Gt.rt (r := (trimmedM ps a).1) T.l1
    have h1 : dq (up (ups ((rw ps).take a)) (trimmedM ps a).1) (up (ups ((rw ps).take a)) (trimmedM ps a).1) ≤ ((2 ^ 23 : Nat) : Rat) := by
      have := (gs_ee hwd a (by omega) (fun m hm => hde m (by omega))).2 a a (by omega) (by omega)
      rw [htk, hga] at this
      rw [this, hee a ha]
      exact P.hh a ha
    have h2 : tot ((ups ((rw ps).take a)).map fun u => sh (trimmedM ps a).1 u * sh (trimmedM ps a).1 u * dq u u) ≤ (((ups ((rw ps).take a)).map fun u => sh (trimmedM ps a).1 u * sh (trimmedM ps a).1 u * dq u u).length : Rat) * ((2 ^ 23 : Nat) : Rat) := by
      refine tot_bd _ fun x hx => ?_
      obtain ⟨u, hu, rfl⟩ := List.mem_map.mp hx
      refine half_sq (hhf u hu) (dq_nn u) ?_
      obtain ⟨j, hj⟩ := List.mem_iff_getElem?.mp hu
      have hl : j < a := by
        have := (List.getElem?_eq_some_iff.mp hj).1
        rw [ups_len, hlt] at this
        exact this
      have e : dq u u = ee (Gr ((rw ps).take a)) j j j := by
        rw [← ee_h Gt (by omega), getD_of hj]
      rw [e, ee_congr (n := a) (fun i j hi hj => Gr_take hi hj) j j j hl hl hl]
      exact P.hh j (by omega)
    rw [List.length_map, ups_len, hlt] at h2
    have h3 : ((a : Nat) : Rat) * ((2 ^ 23 : Nat) : Rat) ≤ ((3 : Nat) : Rat) * ((2 ^ 23 : Nat) : Rat) := le_mul (nat_le (by omega)) (nat_le (a := 0) (Nat.zero_le _))
    rw [← mul_rat] at h3
    have h4 : ((2 ^ 23 : Nat) : Rat) + ((3 * 2 ^ 23 : Nat) : Rat) = ((2 ^ 25 : Nat) : Rat) := by rw [← add_rat]
    grind
  have hnqa : ∀ i, i < ps.length → Nq (((rw ps).set a (trimmedM ps a).1).getD i []) ≤ ((2 ^ 25 : Nat) : Rat) := fun i hi => by
    rw [getD_set hal]
    split
    · exact hnq
    · rw [rw_getD]; exact P.nq _ (gd_mem hi)
  have G' : Gs w ((rw ps).set a (trimmedM ps a).1) := gs_mk (by omega) (by omega) P.gs.w5 hwd (fun i hi => bits40 (hnqa i (by omega))) (fun r hr x hx => by
    obtain ⟨j, hj, rfl⟩ := List.getElem_of_mem hr
    have := hrough j (by omega) x (by rw [getD_of (List.getElem?_eq_getElem hj)]; exact hx)
    exact this) (by rw [hvol]; exact P.gs.vol)
  refine ⟨⟨by rw [List.length_set]; exact P.len, by rw [rw_set]; exact G', by rw [rw_set, hvol]; exact P.vol, fun p hp => ?_, fun p hp => ?_, fun p hp => ?_, fun k hk => ?_, fun r hr => ?_⟩, hvp, ?_⟩
  · rcases List.mem_or_eq_of_mem_set hp with z | z
    · exact P.wl p z
    · rw [z]; exact T.l2
  · rcases List.mem_or_eq_of_mem_set hp with z | z
    · exact P.md p z
    · rw [z]; exact T.md
  · rcases List.mem_or_eq_of_mem_set hp with z | z
    · exact P.nq p z
    · rw [z]; exact hnq
  · rw [List.length_set] at hk
    rw [rw_set, hee k hk]
    exact P.hh k hk
  · rw [rw_set]
    exact InL.trans P.gs.wd hwd (by rw [rw_len]; omega) (by omega) T.il (P.bk r hr)
  · rw [List.any_map, List.any_eq_false]
    intro u hu
    rw [ups_take, htk] at hu
    show ¬ bigM (sh (((rw ps).set a (trimmedM ps a).1).getD a []) u) = true
    rw [hga, (hhf u hu).big]
    decide
end Mi

/-! Rows made trim: two rows change places; the end. -/
set_option maxHeartbeats 4000000
namespace Mi
/-- a - 1 and a change places -/
def sg (a i : Nat) : Nat := if i = a - 1 then a else if i = a then a - 1 else i
theorem gd_swap {G : Nat → Nat → Rat} (hc : ∀ a b, G a b = G b a) : ∀ m a : Nat, m ≤ 4 → 0 < a → a < m → gd (fun i j => G (sg a i) (sg a j)) m = gd G m := by
  intro m a h4 h0 h
  have c01 := hc 0 1
  have c02 := hc 0 2
  have c03 := hc 0 3
  have c12 := hc 1 2
  have c13 := hc 1 3
  have c23 := hc 2 3
  clear hc
  match m, a, h4, h0, h with
  | 2, 1, _, _, _ => show G (sg 1 0) (sg 1 0) * G (sg 1 1) (sg 1 1) - G (sg 1 1) (sg 1 0) * G (sg 1 1) (sg 1 0) = G 0 0 * G 1 1 - G 1 0 * G 1 0; simp only [show sg 1 0 = 1 from rfl, show sg 1 1 = 0 from rfl]; simp only [c01, c02, c03, c12, c13, c23]; grind
  | 3, 1, _, _, _ => show m3 (fun i j => G (sg 1 i) (sg 1 j)) 2 2 = m3 G 2 2; unfold m3; simp only [show sg 1 0 = 1 from rfl, show sg 1 1 = 0 from rfl, show sg 1 2 = 2 from rfl]; simp only [c01, c02, c03, c12, c13, c23]; grind
  | 3, 2, _, _, _ => show m3 (fun i j => G (sg 2 i) (sg 2 j)) 2 2 = m3 G 2 2; unfold m3; simp only [show sg 2 0 = 0 from rfl, show sg 2 1 = 2 from rfl, show sg 2 2 = 1 from rfl]; simp only [c01, c02, c03, c12, c13, c23]; grind
  | 4, 1, _, _, _ => show m4 (fun i j => G (sg 1 i) (sg 1 j)) 3 3 = m4 G 3 3; unfold m4; simp only [show sg 1 0 = 1 from rfl, show sg 1 1 = 0 from rfl, show sg 1 2 = 2 from rfl, show sg 1 3 = 3 from rfl]; simp only [c01, c02, c03, c12, c13, c23]; grind
  | 4, 2, _, _, _ => show m4 (fun i j => G (sg 2 i) (sg 2 j)) 3 3 = m4 G 3 3; unfold m4; simp only [show sg 2 0 = 0 from rfl, show sg 2 1 = 2 from rfl, show sg 2 2 = 1 from rfl, show sg 2 3 = 3 from rfl]; simp only [c01, c02, c03, c12, c13, c23]; grind
  | 4, 3, _, _, _ => show m4 (fun i j => G (sg 3 i) (sg 3 j)) 3 3 = m4 G 3 3; unfold m4; simp only [show sg 3 0 = 0 from rfl, show sg 3 1 = 1 from rfl, show sg 3 2 = 3 from rfl, show sg 3 3 = 2 from rfl]; simp only [c01, c02, c03, c12, c13, c23]; grind
  | 1, a, _, h0, h => omega
  | 2, a + 2, _, h0, h => omega
  | 3, a + 3, _, h0, h => omega
  | 4, a + 4, _, h0, h => omega
def swp (ps : List Pr) (a : Nat) : List Pr := (ps.set (a - 1) (ps.getD a ([], []))).set a (ps.getD (a - 1) ([], []))
theorem swp_len (ps : List Pr) (a : Nat) : (swp ps a).length = ps.length := by unfold swp; rw [List.length_set, List.length_set]
theorem gdP_set {ps : List Pr} {i : Nat} {p : Pr} (hi : i < ps.length) (a : Nat) : (ps.set i p).getD a ([], []) = if a = i then p else ps.getD a ([], []) := by
  by_cases e : a = i
  · subst e
    rw [if_pos rfl, List.getD_eq_getElem?_getD, List.getElem?_set_self hi]
    rfl
  · rw [if_neg e, List.getD_eq_getElem?_getD, List.getElem?_set_ne (Ne.symm e), ← List.getD_eq_getElem?_getD]
theorem swp_getD {ps : List Pr} {a : Nat} (h0 : 0 < a) (ha : a < ps.length) (i : Nat) : (swp ps a).getD i ([], []) = ps.getD (sg a i) ([], []) := by
  unfold swp sg
  rw [gdP_set (by rw [List.length_set]; exact ha), gdP_set (by omega)]
  by_cases h1 : i = a - 1
  · rw [if_neg (by omega), if_pos h1, if_pos h1]
  · by_cases h2 : i = a
    · rw [if_pos h2, if_neg h1, if_pos h2]
    · rw [if_neg h2, if_neg h1, if_neg h1, if_neg h2]
theorem swp_mem {ps : List Pr} {a : Nat} (h0 : 0 < a) (ha : a < ps.length) {p : Pr} : p ∈ swp ps a ↔ p ∈ ps := by
  have sl : ∀ i, i < ps.length → sg a i < ps.length := fun i hi => by
    unfold sg
    split
    · omega
    · split <;> omega
  constructor
  · intro h
    obtain ⟨i, hi, rfl⟩ := List.getElem_of_mem h
    have hl := swp_len ps a
    have := swp_getD h0 ha i
    rw [getD_of (List.getElem?_eq_getElem hi)] at this
    rw [this]
    exact gd_mem (sl i (by omega))
  · intro h
    obtain ⟨i, hi, rfl⟩ := List.getElem_of_mem h
    have hl := swp_len ps a
    have ss : sg a (sg a i) = i := by unfold sg; split <;> split <;> (try split) <;> omega
    have := swp_getD h0 ha (sg a i)
    rw [ss, getD_of (xs := ps) (List.getElem?_eq_getElem hi)] at this
    rw [← this]
    exact gd_mem (by rw [hl]; exact sl i hi)
theorem Gr_swp {ps : List Pr} {a : Nat} (h0 : 0 < a) (ha : a < ps.length) (i j : Nat) : Gr (rw (swp ps a)) i j = Gr (rw ps) (sg a i) (sg a j) := by
  unfold Gr
  rw [rw_getD, rw_getD, rw_getD, rw_getD, swp_getD h0 ha, swp_getD h0 ha]
theorem swp_take {ps : List Pr} {a m : Nat} (hm : m < a) : (rw (swp ps a)).take m = (rw ps).take m := by
  unfold swp
  rw [rw_set, rw_set, take_set_ge (by omega), take_set_ge (by omega)]
theorem gd_take {rows : Tb} {m : Nat} : gd (Gr (rows.take m)) m = gd (Gr rows) m := by
  have e : ∀ i j, i < m → j < m → Gr (rows.take m) i j = Gr rows i j := fun i j hi hj => Gr_take hi hj
  match m, e with
  | 0, _ => rfl
  | 1, e => exact e 0 0 (by omega) (by omega)
  | 2, e => show _ - _ = _ - _; rw [e 0 0 (by omega) (by omega), e 1 1 (by omega) (by omega), e 1 0 (by omega) (by omega)]
  | 3, e =>
    show m3 _ 2 2 = m3 _ 2 2
    unfold m3
    rw [e 0 0 (by omega) (by omega), e 1 1 (by omega) (by omega), e 1 0 (by omega) (by omega), e 2 2 (by omega) (by omega), e 2 1 (by omega) (by omega), e 2 0 (by omega) (by omega)]
  | 4, e =>
    show m4 _ 3 3 = m4 _ 3 3
    unfold m4
    rw [e 0 0 (by omega) (by omega), e 1 1 (by omega) (by omega), e 1 0 (by omega) (by omega), e 2 2 (by omega) (by omega), e 2 1 (by omega) (by omega), e 2 0 (by omega) (by omega), e 3 0 (by omega) (by omega), e 3 1 (by omega) (by omega), e 3 2 (by omega) (by omega), e 3 3 (by omega) (by omega)]
  | n + 5, _ => rfl
theorem swp_vp {w : Nat} {ps : List Pr} (W : Wd w (rw ps)) (W' : Wd w (rw (swp ps a))) (h4 : ps.length ≤ 4) (h0 : 0 < a) (ha : a < ps.length) {m : Nat} (hm : m ≠ a) : Mi.vol ((rw (swp ps a)).take m) = Mi.vol ((rw ps).take m) := by
  by_cases h : m < a
  · rw [swp_take h]
  · have key : ∀ m, a < m → m ≤ ps.length → Mi.vol ((rw (swp ps a)).take m) = Mi.vol ((rw ps).take m) := fun m hm hml => by
      refine int_inj ?_
      have l1 : ((rw (swp ps a)).take m).length = m := by rw [List.length_take, rw_len, swp_len]; omega
      have l2 : ((rw ps).take m).length = m := by rw [List.length_take, rw_len]; omega
      rw [vol_gd (W'.take m) (by omega), vol_gd (W.take m) (by omega), l1, l2, gd_take, gd_take,
        show Gr (rw (swp ps a)) = fun i j => Gr (rw ps) (sg a i) (sg a j) from funext fun i => funext fun j => Gr_swp h0 ha i j, gd_swap (Gr_comm _) m a (by omega) h0 hm]
    by_cases h2 : m ≤ ps.length
    · exact key m (by omega) h2
    · have e1 : (rw (swp ps a)).take m = (rw (swp ps a)).take ps.length := by rw [List.take_of_length_le (by rw [rw_len, swp_len]; omega), List.take_of_length_le (by rw [rw_len, swp_len]; omega)]
      have e2 : (rw ps).take m = (rw ps).take ps.length := by rw [List.take_of_length_le (by rw [rw_len]; omega), List.take_of_length_le (by rw [rw_len]; omega)]
      rw [e1, e2]
      exact key _ ha (Nat.le_refl _)
theorem ee_sg {G : Nat → Nat → Rat} {s : Nat → Nat} {n : Nat} (h : ∀ k, k < n → s k = k) : ∀ k, k ≤ n → ∀ i j, ee (fun i j => G (s i) (s j)) k i j = ee G k (s i) (s j)
  | 0, _ => fun i j => rfl
  | k + 1, hk => fun i j => by
    have ih := ee_sg (G := G) h k (by omega)
    show ee (fun i j => G (s i) (s j)) k i j - ee (fun i j => G (s i) (s j)) k i k * ee (fun i j => G (s i) (s j)) k j k / ee (fun i j => G (s i) (s j)) k k k = _
    rw [ih, ih, ih, ih, h k (by omega)]
    rfl
/-- what is asked of the numbers when two rows change places -/
theorem swap_nums {l h e B : Rat} (hl : 0 < l) (hh : 0 < h) (hlB : l ≤ B) (hlt : h < leastQ l (e / l)) : 0 < h + e * e / l ∧ h + e * e / l ≤ B ∧ l * h / (h + e * e / l) ≤ B ∧ h + e * e / l < 3 / 4 * l := by
  have e1 : e / l * l = e := Rat.div_mul_cancel (by grind)
  have hq : e * e / l = e / l * (e / l) * l := by
    refine div_eq (by grind) ?_
    grind
  rw [hq]
  unfold leastQ at hlt
  generalize e / l = m at *
  have h1 := mul_self_nn m
  have h2 := Rat.mul_nonneg h1 (show 0 ≤ l by grind)
  have h3 : h + m * m * l < 3 / 4 * l := by grind
  have h4 : 0 < h + m * m * l := by grind
  refine ⟨h4, by grind, ?_, h3⟩
  have h5 : l * h / (h + m * m * l) * (h + m * m * l) = l * h := Rat.div_mul_cancel (by grind)
  have h6 : l * h ≤ l * (h + m * m * l) := by
    have := Rat.mul_nonneg (show 0 ≤ l by grind) h2
    grind
  generalize l * h / (h + m * m * l) = q at *
  by_cases hq2 : q ≤ l
  · grind
  · have := Rat.mul_pos (show 0 < q - l by grind) h4
    grind
/-- the share of the row ahead's upright -/
theorem sh_ee {w : Nat} {rows : Tb} (G : Gs w rows) {j k : Nat} (hj : j < rows.length) (hk : k < rows.length) : sh (rows.getD j []) ((ups rows).getD k []) = ee (Gr rows) k j k / ee (Gr rows) k k k := by
  obtain ⟨R, he⟩ := gs_ee G.wd k (by omega) fun m hm => G.nz m (by omega)
  unfold sh
  rw [ee_h G hk, ups_getD hk, ← up_dq_rt R (G.wd.at hj) (fun v hv => by rw [dq_comm]; exact up_rt R (G.wd.at hk) v hv), he j k hj hk]
theorem PI.swp {rows0 : Tb} {w : Nat} {ps : List Pr} (P : PI rows0 w ps) {a : Nat} (ha : a < ps.length) (ha0 : 0 < a) (hlt : ee (Gr (rw ps)) a a a < leastQ (ee (Gr (rw ps)) (a - 1) (a - 1) (a - 1)) (sh ((rw ps).getD a []) ((ups (rw ps)).getD (a - 1) []))) :
    PI rows0 w (Mi.swp ps a) ∧ (∀ m, m ≠ a → Mi.vol ((rw (Mi.swp ps a)).take m) = Mi.vol ((rw ps).take m)) ∧ Mi.vol ((rw (Mi.swp ps a)).take a) < Mi.vol ((rw ps).take a) := by
  have n4 : ps.length ≤ 4 := by have := P.gs.n4; rw [rw_len] at this; exact this
  have hal : a < (rw ps).length := by rw [rw_len]; exact ha
  have hmem : ∀ p, p ∈ Mi.swp ps a → p ∈ ps := fun p => (swp_mem ha0 ha).mp
  have hwd : Wd w (rw (Mi.swp ps a)) := fun r hr => by
    obtain ⟨p, hp, rfl⟩ := List.mem_map.mp hr
    exact P.gs.wd _ (List.mem_map.mpr ⟨p, hmem p hp, rfl⟩)
  have hlen : (rw (Mi.swp ps a)).length = ps.length := by rw [rw_len, swp_len]
  have hvp := fun m (hm : m ≠ a) => swp_vp P.gs.wd hwd n4 ha0 ha hm
  have hvol : Mi.vol (rw (Mi.swp ps a)) = Mi.vol (rw ps) := by
    have := hvp ps.length (by omega)
    rw [List.take_of_length_le (by omega), List.take_of_length_le (by rw [rw_len]; omega)] at this
    exact this
  have G' : Gs w (rw (Mi.swp ps a)) := gs_mk (by omega) (by omega) P.gs.w5 hwd (fun i hi => by
    rw [rw_getD]
    exact bits40 (P.nq _ (hmem _ (gd_mem (by rw [swp_len]; omega))))) (fun r hr => by
    obtain ⟨p, hp, rfl⟩ := List.mem_map.mp hr
    exact big_row (P.nq p (hmem p hp)) (by decide)) (by rw [hvol]; exact P.gs.vol)
  -- the numbers
  have hG : Gr (rw (Mi.swp ps a)) = fun i j => Gr (rw ps) (sg a i) (sg a j) := funext fun i => funext fun j => Gr_swp ha0 ha i j
  have hs1 : sg a (a - 1) = a := by unfold sg; rw [if_pos rfl]
  have hlow : ∀ k, k < a - 1 → sg a k = k := fun k hk => by unfold sg; rw [if_neg (by omega), if_neg (by omega)]
  have e1 : ee (Gr (rw (Mi.swp ps a))) (a - 1) (a - 1) (a - 1) = ee (Gr (rw ps)) (a - 1) a a := by
    rw [hG, ee_sg hlow (a - 1) (Nat.le_refl _), hs1]
  have e2 : ee (Gr (rw ps)) a a a = ee (Gr (rw ps)) (a - 1) a a - ee (Gr (rw ps)) (a - 1) a (a - 1) * ee (Gr (rw ps)) (a - 1) a (a - 1) / ee (Gr (rw ps)) (a - 1) (a - 1) (a - 1) := by
    obtain ⟨b, rfl⟩ : ∃ b, a = b + 1 := ⟨a - 1, by omega⟩
    rfl
  rw [sh_ee P.gs hal (by omega)] at hlt
  have hl := ee_pos P.gs (show a - 1 < (rw ps).length by omega)
  have hh := ee_pos P.gs hal
  have hlB := P.hh (a - 1) (by omega)
  obtain ⟨s1, s2, s3, s4⟩ := swap_nums hl hh hlB hlt
  have e3 : ee (Gr (rw ps)) (a - 1) a a = ee (Gr (rw ps)) a a a + ee (Gr (rw ps)) (a - 1) a (a - 1) * ee (Gr (rw ps)) (a - 1) a (a - 1) / ee (Gr (rw ps)) (a - 1) (a - 1) (a - 1) := by rw [e2]; grind
  rw [← e3] at s1 s2 s3 s4
  rw [← e1] at s1 s2 s3 s4
  have d1 : de (Gr (rw (Mi.swp ps a))) (a - 1) = de (Gr (rw ps)) (a - 1) := by rw [← vp_de G' (by omega), ← vp_de P.gs (by omega), hvp _ (by omega)]
  have dp := de_pos P.gs (a - 1) (by omega)
  have da : de (Gr (rw (Mi.swp ps a))) a = de (Gr (rw ps)) (a - 1) * ee (Gr (rw (Mi.swp ps a))) (a - 1) (a - 1) (a - 1) := by
    rw [← d1]
    obtain ⟨b, rfl⟩ : ∃ b, a = b + 1 := ⟨a - 1, by omega⟩
    rfl
  have db : de (Gr (rw ps)) a = de (Gr (rw ps)) (a - 1) * ee (Gr (rw ps)) (a - 1) (a - 1) (a - 1) := by
    obtain ⟨b, rfl⟩ : ∃ b, a = b + 1 := ⟨a - 1, by omega⟩
    rfl
  have dc : de (Gr (rw (Mi.swp ps a))) (a + 1) = de (Gr (rw ps)) (a + 1) := by rw [← vp_de G' (by omega), ← vp_de P.gs (by omega), hvp _ (by omega)]
  refine ⟨⟨by rw [swp_len]; exact P.len, G', by rw [hvol]; exact P.vol, fun p hp => P.wl p (hmem p hp), fun p hp => P.md p (hmem p hp), fun p hp => P.nq p (hmem p hp), fun k hk => ?_, fun r hr => ?_⟩, hvp, ?_⟩
  · rw [swp_len] at hk
    by_cases h1 : k = a - 1
    · rw [h1]; exact s2
    · by_cases h2 : k = a
      · subst h2
        have e4 : ee (Gr (rw (Mi.swp ps k))) k k k = ee (Gr (rw ps)) (k - 1) (k - 1) (k - 1) * ee (Gr (rw ps)) k k k / ee (Gr (rw (Mi.swp ps k))) (k - 1) (k - 1) (k - 1) := by
          refine (div_eq (by grind) ?_).symm
          have x1 : de (Gr (rw (Mi.swp ps k))) k * ee (Gr (rw (Mi.swp ps k))) k k k = de (Gr (rw ps)) k * ee (Gr (rw ps)) k k k := dc
          rw [da, db] at x1
          refine canc (a := de (Gr (rw ps)) (k - 1)) (by grind) ?_
          grind
        rw [e4]
        exact s3
      · rw [ee_vp G' (by omega), hvp _ (by omega), hvp _ (by omega), ← ee_vp P.gs (by rw [rw_len]; omega)]
        exact P.hh k hk
  · refine InL.trans P.gs.wd hwd (by omega) (by omega) (fun q hq => ?_) (P.bk r hr)
    obtain ⟨p, hp, rfl⟩ := List.mem_map.mp hq
    exact InL.row hwd (List.mem_map.mpr ⟨p, (swp_mem ha0 ha).mpr hp, rfl⟩)
  · have x1 := vp_de G' (m := a) (by omega)
    have x2 := vp_de P.gs (m := a) (by omega)
    have x3 : ((Mi.vol ((rw (Mi.swp ps a)).take a) : Int) : Rat) < ((Mi.vol ((rw ps).take a) : Int) : Rat) := by
      rw [x1, x2, da, db]
      have y := Rat.mul_pos dp (show 0 < ee (Gr (rw ps)) (a - 1) (a - 1) (a - 1) - ee (Gr (rw (Mi.swp ps a))) (a - 1) (a - 1) (a - 1) by grind)
      grind
    exact_mod_cast x3
end Mi

/-! Rows made trim: to the end. -/
set_option maxHeartbeats 4000000
namespace Mi
abbrev Ts := List Pr × Nat
/-- whether row a stands well -/
def stands (R : Tb) (a : Nat) : Bool := standM ((hgtM R).getD (a - 1) 0) ((hgtM R).getD a 0) (((shsM R).getD a []).getD (a - 1) 0)
def stepM (s : Ts) : Ts :=
  if stands (rw (s.1.set s.2 (trimmedM s.1 s.2))) s.2 then (s.1.set s.2 (trimmedM s.1 s.2), s.2 + 1) else (swp (s.1.set s.2 (trimmedM s.1 s.2)) s.2, max 1 (s.2 - 1))
def muT (s : Ts) : Nat := 2 * ((vol ((rw s.1).take 1)).toNat + (vol ((rw s.1).take 2)).toNat + (vol ((rw s.1).take 3)).toNat) + (s.1.length - s.2)
structure TI (rows0 : Tb) (w : Nat) (s : Ts) : Prop where
  pi : PI rows0 w s.1
  a0 : 0 < s.2
  an : s.2 ≤ s.1.length
  tr : trimM ((rw s.1).take s.2) = true
theorem shs_last {w : Nat} {R : Tb} (G : Gs w R) {a : Nat} (ha : a < R.length) (h0 : 0 < a) : ((shsM R).getD a []).getD (a - 1) 0 = sh (R.getD a []) ((ups R).getD (a - 1) []) := by
  rw [getD_of (shs_get G ha)]
  refine getD_of ?_
  rw [List.getElem?_map, List.getElem?_take, if_pos (by omega), ups_at (by omega), ups_getD (by omega)]
  rfl
theorem TI.step {rows0 : Tb} {w : Nat} {s : Ts} (W0 : Wd w rows0) (T : TI rows0 w s) (h : s.2 < s.1.length) : TI rows0 w (stepM s) ∧ muT (stepM s) < muT s := by
  obtain ⟨ps, a⟩ := s
  obtain ⟨P, a0, an, tr⟩ := T
  have h : a < ps.length := h
  have a0 : 0 < a := a0
  have P : PI rows0 w ps := P
  have tr : trimM ((rw ps).take a) = true := tr
  obtain ⟨P1, hvp, hbig⟩ := P.red W0 h a0
  obtain ⟨qs, hqs⟩ : ∃ qs, ps.set a (trimmedM ps a) = qs := ⟨_, rfl⟩
  have hql : qs.length = ps.length := by rw [← hqs, List.length_set]
  have htk : (rw qs).take a = (rw ps).take a := by rw [← hqs, rw_set, take_set_ge (Nat.le_refl _)]
  have e : stepM (ps, a) = if stands (rw qs) a then (qs, a + 1) else (swp qs a, max 1 (a - 1)) := by
    show (if stands (rw (ps.set a (trimmedM ps a))) a then (ps.set a (trimmedM ps a), a + 1) else _) = _
    rw [hqs]
  rw [hqs] at P1 hvp hbig
  have haq : a < (rw qs).length := by rw [rw_len]; omega
  have hst : stands (rw qs) a = standM (ee (Gr (rw qs)) (a - 1) (a - 1) (a - 1)) (ee (Gr (rw qs)) a a a) (sh ((rw qs).getD a []) ((ups (rw qs)).getD (a - 1) [])) := by
    unfold stands
    rw [hgt_ee P1.gs (by omega), hgt_ee P1.gs haq, shs_last P1.gs haq a0]
  rw [e]
  by_cases hs : stands (rw qs) a = true
  · rw [if_pos hs]
    refine ⟨⟨P1, Nat.succ_pos _, by show a + 1 ≤ qs.length; omega, ?_⟩, ?_⟩
    · show trimM ((rw qs).take (a + 1)) = true
      obtain ⟨b, rfl⟩ : ∃ b, a = b + 1 := ⟨a - 1, by omega⟩
      refine trim_more P1.gs haq (by rw [htk]; exact tr) ?_
      rw [hbig]
      have := hs
      unfold stands at this
      rw [getD_of (shs_get P1.gs haq)] at this
      exact this
    · show 2 * ((vol ((rw qs).take 1)).toNat + (vol ((rw qs).take 2)).toNat + (vol ((rw qs).take 3)).toNat) + (qs.length - (a + 1)) < 2 * ((vol ((rw ps).take 1)).toNat + (vol ((rw ps).take 2)).toNat + (vol ((rw ps).take 3)).toNat) + (ps.length - a)
      rw [hvp, hvp, hvp, hql]
      omega
  · rw [if_neg hs]
    have hlt : ee (Gr (rw qs)) a a a < leastQ (ee (Gr (rw qs)) (a - 1) (a - 1) (a - 1)) (sh ((rw qs).getD a []) ((ups (rw qs)).getD (a - 1) [])) := by
      rw [hst] at hs
      unfold standM at hs
      by_cases hx : ee (Gr (rw qs)) a a a < leastQ (ee (Gr (rw qs)) (a - 1) (a - 1) (a - 1)) (sh ((rw qs).getD a []) ((ups (rw qs)).getD (a - 1) []))
      · exact hx
      · rw [decide_eq_false hx] at hs
        exact absurd rfl hs
    obtain ⟨P2, hv2, hv3⟩ := P1.swp (by omega) a0 hlt
    have hp1 := vp_pos P2.gs (m := a) (by rw [rw_len, swp_len]; omega)
    have n4 : qs.length ≤ 4 := by have := P1.gs.n4; rw [rw_len] at this; exact this
    refine ⟨⟨P2, by show 0 < max 1 (a - 1); omega, by show max 1 (a - 1) ≤ (swp qs a).length; rw [swp_len]; omega, ?_⟩, ?_⟩
    · show trimM ((rw (swp qs a)).take (max 1 (a - 1))) = true
      by_cases h1 : a = 1
      · rw [h1, show max 1 (1 - 1) = 1 from rfl]
        rw [h1] at P2
        exact trim_one P2.gs
      · rw [show max 1 (a - 1) = a - 1 by omega, swp_take (by omega)]
        exact trim_less (show a - 1 ≤ a by omega) (by rw [htk]; exact tr)
    · show 2 * ((vol ((rw (swp qs a)).take 1)).toNat + (vol ((rw (swp qs a)).take 2)).toNat + (vol ((rw (swp qs a)).take 3)).toNat) + ((swp qs a).length - max 1 (a - 1)) < 2 * ((vol ((rw ps).take 1)).toNat + (vol ((rw ps).take 2)).toNat + (vol ((rw ps).take 3)).toNat) + (ps.length - a)
      rw [← hvp 1, ← hvp 2, ← hvp 3, swp_len, ← hql]
      rcases (show a = 1 ∨ a = 2 ∨ a = 3 by omega) with h1 | h1 | h1
      · rw [h1] at hv2 hv3 hp1 ⊢
        rw [hv2 2 (by decide), hv2 3 (by decide)]
        omega
      · rw [h1] at hv2 hv3 hp1 ⊢
        rw [hv2 1 (by decide), hv2 3 (by decide)]
        omega
      · rw [h1] at hv2 hv3 hp1 ⊢
        rw [hv2 1 (by decide), hv2 2 (by decide)]
        omega
def trimGo : Nat → Ts → Ts
  | 0, s => s
  | f + 1, s => if s.2 < s.1.length then trimGo f (stepM s) else s
theorem trimGo_eq {rows0 : Tb} {w : Nat} (W0 : Wd w rows0) : ∀ (f g : Nat) (s : Ts), TI rows0 w s → muT s ≤ f → muT s ≤ g → trimGo f s = trimGo g s
  | 0, 0, s, _, _, _ => rfl
  | 0, g + 1, s, T, h1, _ => by
    show s = if s.2 < s.1.length then trimGo g (stepM s) else s
    by_cases h : s.2 < s.1.length
    · have := (T.step W0 h).2; omega
    · rw [if_neg h]
  | f + 1, 0, s, T, _, h2 => by
    show (if s.2 < s.1.length then trimGo f (stepM s) else s) = s
    by_cases h : s.2 < s.1.length
    · have := (T.step W0 h).2; omega
    · rw [if_neg h]
  | f + 1, g + 1, s, T, h1, h2 => by
    show (if s.2 < s.1.length then trimGo f (stepM s) else s) = if s.2 < s.1.length then trimGo g (stepM s) else s
    by_cases h : s.2 < s.1.length
    · rw [if_pos h, if_pos h]
      obtain ⟨T', hm⟩ := T.step W0 h
      exact trimGo_eq W0 f g (stepM s) T' (by omega) (by omega)
    · rw [if_neg h, if_neg h]
/-- where it ends -/
def finT (s : Ts) : Ts := trimGo (muT s) s
theorem finT_step {rows0 : Tb} {w : Nat} (W0 : Wd w rows0) {s : Ts} (T : TI rows0 w s) (h : s.2 < s.1.length) : finT (stepM s) = finT s := by
  obtain ⟨T', hm⟩ := T.step W0 h
  unfold finT
  have : trimGo (muT s) s = trimGo (muT s + 1) s := trimGo_eq W0 _ _ s T (Nat.le_refl _) (by omega)
  rw [this]
  show _ = if s.2 < s.1.length then trimGo (muT s) (stepM s) else s
  rw [if_pos h]
  exact trimGo_eq W0 _ _ (stepM s) T' (Nat.le_refl _) (by omega)
theorem finT_end {s : Ts} (h : ¬ s.2 < s.1.length) : finT s = s := by
  unfold finT
  cases muT s with
  | zero => rfl
  | succ f =>
    show (if s.2 < s.1.length then trimGo f (stepM s) else s) = s
    rw [if_neg h]
theorem finT_ok {rows0 : Tb} {w : Nat} (W0 : Wd w rows0) : ∀ (f : Nat) (s : Ts), muT s ≤ f → TI rows0 w s → TI rows0 w (finT s) ∧ (finT s).2 = (finT s).1.length
  | f, s, hf, T => by
    by_cases h : s.2 < s.1.length
    · obtain ⟨T', hm⟩ := T.step W0 h
      cases f with
      | zero => omega
      | succ f =>
        rw [← finT_step W0 T h]
        exact finT_ok W0 f (stepM s) (by omega) T'
    · rw [finT_end h]
      exact ⟨T, by have := T.an; omega⟩
/-! ### the start -/
def startP (rows : Tb) : List Pr := (enumI rows).map fun p => (p.2, (rgI 0 rows.length).map fun k => if decide (k = p.1) = true then 1 else 0)
theorem unit_eq (n j : Nat) : ((rgI 0 n).map fun k => if decide (k = (j : Int)) = true then (1 : Int) else 0) = unitW n j := by
  unfold rgI unitW
  rw [List.map_map]
  refine List.map_congr_left fun k _ => ?_
  show (if decide ((0 : Int) + (k : Int) = (j : Int)) = true then (1 : Int) else 0) = _
  by_cases h : k = j
  · rw [if_pos h, if_pos (decide_eq_true (by omega))]
  · rw [if_neg h, if_neg (by rw [decide_eq_false (by omega)]; decide)]
theorem startP_at {rows : Tb} {p : Pr} (h : p ∈ startP rows) : ∃ j, j < rows.length ∧ p = (rows.getD j [], unitW rows.length j) := by
  obtain ⟨q, hq, rfl⟩ := List.mem_map.mp h
  obtain ⟨j, hj⟩ := List.mem_iff_getElem?.mp hq
  obtain ⟨h1, h2⟩ := enumI_get hj
  refine ⟨j, (List.getElem?_eq_some_iff.mp h2).1, ?_⟩
  rw [h1, unit_eq, getD_of h2]
theorem startP_rw (rows : Tb) : rw (startP rows) = rows := by
  unfold rw startP
  rw [List.map_map]
  refine List.ext_getElem? fun i => ?_
  rw [List.getElem?_map]
  cases e : rows[i]? with
  | none => rw [List.getElem?_eq_none (by rw [enumI_len]; exact List.getElem?_eq_none_iff.mp e)]; rfl
  | some r => rw [enumI_at e]; rfl
theorem Good.nq {rows : Tb} (h : Good rows) : ∀ r ∈ rows, Nq r ≤ ((2 ^ 23 : Nat) : Rat) := fun r hr => by
  obtain ⟨w, w0, w5, R⟩ := h.w
  have := Nq_le (l := 5) (m := 1000) (by rw [R.wid r hr]; exact w5) (R.bd r hr)
  exact Rat.le_trans this (nat_le (by decide))
theorem Good.start {rows : Tb} (h : Good rows) : ∃ w, 0 < w ∧ Gs w rows ∧ TI rows w (startP rows, 1) := by
  obtain ⟨w, w0, G, _⟩ := h.gs
  have hl : (startP rows).length = rows.length := by unfold startP; rw [List.length_map, enumI_len]
  have n0 := G.n0
  refine ⟨w, w0, G, ⟨⟨hl, by rw [startP_rw]; exact G, by rw [startP_rw], fun p hp => ?_, fun p hp => ?_, fun p hp => ?_, fun k hk => ?_, fun r hr => ?_⟩, Nat.one_pos, by show 1 ≤ (startP rows).length; omega, by rw [startP_rw]; exact trim_one G⟩⟩
  · obtain ⟨j, hj, rfl⟩ := startP_at hp
    show (unitW rows.length j).length = _
    unfold unitW
    rw [List.length_map, List.length_range]
  · obtain ⟨j, hj, rfl⟩ := startP_at hp
    exact unit_made G.wd hj
  · obtain ⟨j, hj, rfl⟩ := startP_at hp
    exact nq_nat (h.nq _ (getD_mem hj)) (by decide)
  · have hk : k < (startP rows).length := hk
    rw [startP_rw]
    exact Rat.le_trans (ee_le G (by omega)) (h.nq _ (getD_mem (by omega)))
  · rw [startP_rw]
    exact InL.row G.wd hr
/-! ### what trim tells -/
def trimS (rows : Tb) : List Pr := (finT (startP rows, 1)).1
def trimF (rows : Tb) : Tb := rw (trimS rows)
def trimW (rows : Tb) : Tb := (trimS rows).map (·.2)
def trimBk (rows : Tb) : Tb := rows.map fun r => (wofM (trimF rows) r).getD []
structure TrimOk (w : Nat) (rows : Tb) : Prop where
  gs0 : Gs w rows
  pi : PI rows w (trimS rows)
  tr : trimM (trimF rows) = true
theorem Good.trim {rows : Tb} (h : Good rows) : ∃ w, 0 < w ∧ TrimOk w rows := by
  obtain ⟨w, w0, G, T⟩ := h.start
  obtain ⟨T2, he⟩ := finT_ok G.wd _ _ (Nat.le_refl _) T
  refine ⟨w, w0, G, T2.pi, ?_⟩
  have := T2.tr
  rw [he, List.take_of_length_le (by rw [rw_len]; exact Nat.le_refl _)] at this
  exact this
theorem TrimOk.len {w : Nat} {rows : Tb} (T : TrimOk w rows) : (trimF rows).length = rows.length := by
  unfold trimF
  rw [rw_len, T.pi.len]
theorem TrimOk.gs {w : Nat} {rows : Tb} (T : TrimOk w rows) : Gs w (trimF rows) := T.pi.gs
theorem TrimOk.vol {w : Nat} {rows : Tb} (T : TrimOk w rows) : Mi.vol (trimF rows) = Mi.vol rows := T.pi.vol
theorem TrimOk.nq {w : Nat} {rows : Tb} (T : TrimOk w rows) : ∀ r ∈ trimF rows, Nq r ≤ ((2 ^ 25 : Nat) : Rat) := fun r hr => by
  obtain ⟨p, hp, rfl⟩ := List.mem_map.mp hr
  exact T.pi.nq p hp
theorem TrimOk.made {w : Nat} {rows : Tb} (T : TrimOk w rows) : (trimW rows).map (madeM rows) = trimF rows := by
  unfold trimW trimF rw
  rw [List.map_map]
  exact List.map_congr_left fun p hp => T.pi.md p hp
theorem TrimOk.wlen {w : Nat} {rows : Tb} (T : TrimOk w rows) : (trimW rows).length = rows.length ∧ ∀ ws ∈ trimW rows, ws.length = rows.length := by
  refine ⟨by unfold trimW; rw [List.length_map, T.pi.len], fun ws h => ?_⟩
  obtain ⟨p, hp, rfl⟩ := List.mem_map.mp h
  exact T.pi.wl p hp
theorem TrimOk.wof {w : Nat} {rows : Tb} (T : TrimOk w rows) {r : List Int} (hr : r ∈ rows) : ∃ ws, wofM (trimF rows) r = some ws ∧ ws.length = rows.length ∧ madeM (trimF rows) ws = r := by
  obtain ⟨ws, hw, hm⟩ := T.pi.bk r hr
  have := wof_self T.gs hw
  exact ⟨ws, by rw [← this]; congr 1; exact hm.symm, by rw [hw]; exact T.len, hm⟩
theorem TrimOk.back {w : Nat} {rows : Tb} (T : TrimOk w rows) : (trimBk rows).length = rows.length ∧ (∀ ws ∈ trimBk rows, ws.length = rows.length) ∧ (trimBk rows).map (madeM (trimF rows)) = rows := by
  unfold trimBk
  refine ⟨List.length_map .., fun ws h => ?_, ?_⟩
  · obtain ⟨r, hr, rfl⟩ := List.mem_map.mp h
    obtain ⟨b, h1, h2, _⟩ := T.wof hr
    rw [h1]
    exact h2
  · rw [List.map_map]
    refine (List.map_congr_left fun r hr => ?_).trans (List.map_id rows)
    obtain ⟨b, h1, _, h3⟩ := T.wof hr
    show madeM (trimF rows) ((wofM (trimF rows) r).getD []) = r
    rw [h1]
    exact h3
/-- rows that are short enough for near -/
theorem near_ok2 {w : Nat} {rows : Tb} (G : Gs w rows) (hb : ∀ k, k < rows.length → Nq (rows.getD k []) ≤ ((2 ^ 25 : Nat) : Rat)) {row : List Int} (hr : row.length = w) (h2 : Nq row ≤ ((2 ^ 700 : Nat) : Rat)) : ∀ i, i ≤ rows.length → ∀ x ∈ (nrI rows row i).2, x.natAbs ≤ 2 ^ 600 := fun i hi => by
  refine row_bd ?_
  have h := near_all G (B := ((2 ^ 25 : Nat) : Rat)) (nat_le (show 1 ≤ 2 ^ 25 by decide)) hb hr i hi
  have e1 : (8 : Rat) * Bp ((2 ^ 25 : Nat) : Rat) 4 = ((2 ^ 103 : Nat) : Rat) := by
    rw [Bp_nat]
    have : (8 : Rat) = ((8 : Nat) : Rat) := rfl
    rw [this, ← mul_rat]
  rw [e1, Bp_nat, pow_pow2] at h
  have h3 : (Nq row + 1) * ((2 ^ (103 * i) : Nat) : Rat) ≤ ((2 ^ 701 : Nat) : Rat) * ((2 ^ (103 * i) : Nat) : Rat) := by
    refine le_mul ?_ (nat_le (a := 0) (Nat.zero_le _))
    have a : ((2 ^ 700 + 1 : Nat) : Rat) = ((2 ^ 700 : Nat) : Rat) + 1 := add_rat _ _
    have b : ((2 ^ 700 + 1 : Nat) : Rat) ≤ ((2 ^ 701 : Nat) : Rat) := nat_le (by rw [Nat.pow_succ]; have := Nat.pow_pos (n := 700) (show 0 < 2 by decide); omega)
    rw [a] at b
    grind
  rw [← mul_rat, ← Nat.pow_add] at h3
  have h4 : ((2 ^ (701 + 103 * i) : Nat) : Rat) ≤ ((2 ^ (2 * 600) : Nat) : Rat) := nat_le (p2 (by have := G.n4; omega))
  have h5 : Nq (nrI rows row i).2 ≤ Nq (nrI rows row i).2 + 1 := by grind
  grind
/-- weights of rows that are short enough -/
theorem w_bits {w : Nat} {rows : Tb} (G : Gs w rows) (hb : ∀ k, k < rows.length → Nq (rows.getD k []) ≤ ((2 ^ 25 : Nat) : Rat)) {ws : List Int} (hw : ws.length = rows.length) (h2 : Nq (madeM rows ws) ≤ ((2 ^ 700 : Nat) : Rat)) : ∀ x ∈ ws, x.natAbs < 2 ^ 4402 := fun x hx => by
  obtain ⟨k, hk, rfl⟩ := List.getElem_of_mem hx
  have hml : (madeM rows ws).length = w := madeM_len G.wd G.n0
  have hkn : k < rows.length := by omega
  have h := near_ok2 G hb hml h2
  have e1 := (nrI_made G hw (rows.length - 1 - k) (by omega)).1
  have e2 := (nrI_made G hw (rows.length - 1 - k + 1) (by omega)).1
  have e3 : rows.length - (rows.length - 1 - k + 1) = k := by omega
  have e4 : rows.length - 1 - (rows.length - 1 - k) = k := by omega
  rw [e3, List.drop_eq_getElem_cons hk] at e2
  have e2 : near1 (sh (nrI rows (madeM rows ws) (rows.length - 1 - k)).2 ((ups rows).getD (rows.length - 1 - (rows.length - 1 - k)) [])) :: (nrI rows (madeM rows ws) (rows.length - 1 - k)).1 = _ := e2
  rw [e4] at e2
  have e5 := (List.cons.inj e2).1
  rw [← e5]
  have hm : (ups rows).getD k [] ∈ ups rows := by
    rw [ups_getD hkn]
    exact List.mem_of_getElem? (ups_at hkn)
  exact near1_bits ((G.uk _ hm).sh ⟨h _ (by omega)⟩ (G.rt.nz _ hm))
end Mi
namespace Mi
/-- what trimmed needs -/
def TrPre (ps : List Pr) (a : Int) : Prop := ∃ rows0 w, Good rows0 ∧ Gs w rows0 ∧ PI rows0 w ps ∧ 0 < a ∧ a < (ps.length : Int)
/-- the rows whose shares trimmed asks for -/
theorem tr_gs {rows0 : Tb} {w : Nat} {ps : List Pr} (P : PI rows0 w ps) (W0 : Wd w rows0) {a i : Nat} (ha : a < ps.length) (ha0 : 0 < a) (hi : i ≤ a) : Gs w ((rw ps).take a ++ [(trI ps a i).1]) := by
  have T := P.tr W0 ha ha0 i hi
  have hal : a < (rw ps).length := by rw [rw_len]; exact ha
  have e : (rw ps).take a ++ [(trI ps a i).1] = ((rw ps).set a (trI ps a i).1).take (a + 1) := by
    rw [take_snoc (by rw [List.length_set]; exact hal), take_set_ge (Nat.le_refl _), getD_set hal, if_pos rfl]
  have hl : ((rw ps).take a ++ [(trI ps a i).1]).length = a + 1 := by rw [List.length_append, List.length_take, rw_len, List.length_singleton]; omega
  have n4 : ps.length ≤ 4 := by have := P.gs.n4; rw [rw_len] at this; exact this
  have g : ∀ k, k < a → ((rw ps).take a ++ [(trI ps a i).1]).getD k [] = (rw ps).getD k [] := fun k hk => by
    rw [List.getD_eq_getElem?_getD, List.getElem?_append_left (by rw [List.length_take, rw_len]; omega), List.getElem?_take, if_pos hk, ← List.getD_eq_getElem?_getD]
  refine gs_mk (by omega) (by omega) P.gs.w5 (fun r hr => ?_) (fun k hk => ?_) (fun r hr => ?_) ?_
  · rcases List.mem_append.mp hr with z | z
    · exact P.gs.wd r (List.mem_of_mem_take z)
    · rw [List.mem_singleton.mp z]; exact T.l1
  · rw [g k (by omega), rw_getD]
    exact bits40 (P.nq _ (gd_mem (by omega)))
  · rcases List.mem_append.mp hr with z | z
    · exact P.gs.bl r (List.mem_of_mem_take z)
    · rw [List.mem_singleton.mp z]; exact big_row T.nq (by decide)
  · rw [e, T.vp]
    have := vp_pos P.gs (m := a + 1) (by omega)
    omega
theorem tr_share {rows0 : Tb} {w : Nat} {ps : List Pr} (P : PI rows0 w ps) (W0 : Wd w rows0) {a i : Nat} (ha : a < ps.length) (ha0 : 0 < a) (hi : i < a) :
    ((shsM ((rw ps).take a ++ [(trI ps a i).1])).getD a []).getD (a - 1 - i) 0 = sh (trI ps a i).1 ((ups ((rw ps).take a)).getD (a - 1 - i) []) ∧ ((shsM ((rw ps).take a ++ [(trI ps a i).1])).getD a []).length = a ∧ Sz (sh (trI ps a i).1 ((ups ((rw ps).take a)).getD (a - 1 - i) [])) := by
  have G := tr_gs P W0 ha ha0 (Nat.le_of_lt hi)
  have hlt : ((rw ps).take a).length = a := by rw [List.length_take, rw_len]; omega
  have hl : ((rw ps).take a ++ [(trI ps a i).1]).length = a + 1 := by rw [List.length_append, hlt, List.length_singleton]
  have hg := shs_get G (i := a) (by omega)
  have hr : ((rw ps).take a ++ [(trI ps a i).1]).getD a [] = (trI ps a i).1 := getD_of (by rw [List.getElem?_append_right (by omega), hlt, Nat.sub_self]; rfl)
  have ht : (ups ((rw ps).take a ++ [(trI ps a i).1])).take a = ups ((rw ps).take a) := by
    rw [ups_take, List.take_append_of_le_length (by omega), List.take_of_length_le (by omega)]
  rw [hr, ht] at hg
  have hz := shs_at G (by omega) hg
  rw [getD_of hg]
  have hul : (ups ((rw ps).take a)).length = a := by rw [ups_len, hlt]
  have hx : ((ups ((rw ps).take a)).map fun u => sh (trI ps a i).1 u)[a - 1 - i]? = some (sh (trI ps a i).1 ((ups ((rw ps).take a)).getD (a - 1 - i) [])) := by
    rw [List.getElem?_map, List.getElem?_eq_getElem (by omega), getD_of (List.getElem?_eq_getElem (by omega))]
    rfl
  exact ⟨getD_of hx, by rw [List.length_map, hul], hz.2.2 _ (List.mem_of_getElem? hx)⟩
theorem PI.wb {rows0 : Tb} {w : Nat} {ps : List Pr} (P : PI rows0 w ps) (G : Gs w rows0) (h : Good rows0) : ∀ p ∈ ps, ∀ x ∈ p.2, x.natAbs < 2 ^ 4402 := fun p hp =>
  w_bits G (fun k hk => nq_nat (h.nq _ (getD_mem hk)) (by decide)) (P.wl p hp) (by rw [P.md p hp]; exact nq_nat (P.nq p hp) (by decide))
theorem TrimOk.nr {w : Nat} {rows : Tb} (T : TrimOk w rows) (h : Good rows) {r : List Int} (hr : r ∈ rows) : NrOk (trimF rows) r :=
  ⟨w, T.gs, T.gs0.wd r hr, near_ok2 T.gs (fun k hk => T.nq _ (getD_mem hk)) (T.gs0.wd r hr) (nq_nat (h.nq r hr) (by decide))⟩
end Mi
namespace Mi
theorem vols_last {rows : Tb} (h : 0 < rows.length) : (volsM rows).getD ((volsM rows).length - 1) 0 = vol rows := by
  have hl : (volsM rows).length = rows.length := by unfold volsM; rw [List.length_map, rgI_len]
  rw [hl]
  refine getD_of ?_
  unfold volsM
  rw [List.getElem?_map]
  have e : (rgI 0 rows.length)[rows.length - 1]? = some ((0 : Int) + ((rows.length - 1 : Nat) : Int)) := by
    unfold rgI
    rw [List.getElem?_map, List.getElem?_range (by omega)]
    rfl
  rw [e]
  show some (vol (rows.take ((0 : Int) + ((rows.length - 1 : Nat) : Int) + 1).toNat)) = _
  rw [List.take_of_length_le (by omega)]
theorem Good.rwd {rows : Tb} (h : Good rows) {w : Nat} (G : Gs w rows) : Rw rows w := by
  obtain ⟨w2, _, w5, R⟩ := h.w
  exact ⟨h.n4, G.w5, G.wd, fun r hr x hx => Nat.lt_of_le_of_lt (R.bd r hr x hx) (by decide)⟩
end Mi

/-! Trim rows are short enough. -/
set_option maxHeartbeats 4000000
namespace Mi
/-- the last weight that is not 0 is the share of its upright -/
theorem sh_last {w : Nat} {rows : Tb} (G : Gs w rows) {ws : List Int} (hw : ws.length = rows.length) {k : Nat} (hk : k < rows.length) (h0 : ∀ j, k < j → j < rows.length → ws.getD j 0 = 0) : sh (madeM rows ws) ((ups rows).getD k []) = ((ws.getD k 0 : Int) : Rat) := by
  have hkw : k < ws.length := by omega
  have hnz : dq ((ups rows).getD k []) ((ups rows).getD k []) ≠ 0 := by
    rw [ups_getD hk]
    exact G.rt.nz _ (List.mem_of_getElem? (ups_at hk))
  rw [sh_tot _ hnz (madeM_dq G.wd G.n0 ws _)]
  have hz : (ws.zip rows)[k]? = some (ws[k], rows.getD k []) := by
    rw [List.getElem?_eq_getElem (by rw [List.length_zip]; omega), List.getElem_zip, getD_of (List.getElem?_eq_getElem hk)]
  have e : ws.zip rows = (ws.zip rows).take k ++ ((ws[k], rows.getD k []) :: (ws.zip rows).drop (k + 1)) := by
    have hkl : k < (ws.zip rows).length := by rw [List.length_zip]; omega
    have h2 : (ws.zip rows)[k] = (ws[k], rows.getD k []) := by
      rw [List.getElem?_eq_getElem hkl] at hz
      exact Option.some.inj hz
    rw [← h2, ← List.drop_eq_getElem_cons hkl, List.take_append_drop]
  rw [e, List.map_append, tot_app, List.map_cons, tot_cons]
  have key : ∀ l : List (Int × List Int), (∀ p ∈ l, (p.1 : Rat) * sh p.2 ((ups rows).getD k []) = 0) → tot (l.map fun p => (p.1 : Rat) * sh p.2 ((ups rows).getD k [])) = 0 := by
    intro l
    induction l with
    | nil => intro _; rfl
    | cons p l ih => intro hp; rw [List.map_cons, tot_cons, ih fun q hq => hp q (List.mem_cons_of_mem _ hq), hp p List.mem_cons_self]; grind
  rw [key _ fun p hp => ?_, key _ fun p hp => ?_]
  · show 0 + (((ws[k] : Int) : Rat) * sh (rows.getD k []) ((ups rows).getD k []) + 0) = _
    rw [ups_getD hk, sh_self G hk, getD_of (List.getElem?_eq_getElem hkw)]
    grind
  · obtain ⟨j, hj⟩ := List.mem_iff_getElem?.mp hp
    rw [List.getElem?_drop] at hj
    have hjl : k + 1 + j < (ws.zip rows).length := (List.getElem?_eq_some_iff.mp hj).1
    rw [List.getElem?_eq_getElem hjl, List.getElem_zip] at hj
    rw [List.length_zip] at hjl
    have := h0 (k + 1 + j) (by omega) (by omega)
    rw [getD_of (List.getElem?_eq_getElem (by omega))] at this
    rw [← Option.some.inj hj]
    show ((ws[k + 1 + j] : Int) : Rat) * _ = 0
    rw [this]
    have : ((0 : Int) : Rat) = 0 := rfl
    grind
  · obtain ⟨j, hj⟩ := List.mem_iff_getElem?.mp hp
    rw [List.getElem?_take] at hj
    by_cases hjk : j < k
    · rw [if_pos hjk, List.getElem?_eq_getElem (by rw [List.length_zip]; omega), List.getElem_zip] at hj
      rw [← Option.some.inj hj]
      show _ * sh (rows[j]) _ = 0
      have := sh_ahead G hk hjk
      rw [getD_of (List.getElem?_eq_getElem (show j < rows.length by omega)), ← ups_getD hk] at this
      rw [this]
      grind
    · rw [if_neg hjk] at hj; cases hj
/-- weights that are not all 0 have a last one -/
theorem last_nz : ∀ (n : Nat) (ws : List Int), ws.length = n → (∃ x ∈ ws, x ≠ 0) → ∃ k, k < n ∧ ws.getD k 0 ≠ 0 ∧ ∀ j, k < j → j < n → ws.getD j 0 = 0 := by
  intro n ws hl hx
  have key : ∀ m, m ≤ n → (∃ k, k < m ∧ ws.getD k 0 ≠ 0) → ∃ k, k < m ∧ ws.getD k 0 ≠ 0 ∧ ∀ j, k < j → j < m → ws.getD j 0 = 0 := by
    intro m
    induction m with
    | zero => rintro _ ⟨k, hk, _⟩; omega
    | succ m ih =>
      intro hm ⟨k, hk, hz⟩
      by_cases e : ws.getD m 0 = 0
      · have hkm : k ≠ m := fun z => hz (by rw [z]; exact e)
        obtain ⟨q, h1, h2, h3⟩ := ih (by omega) ⟨k, by omega, hz⟩
        refine ⟨q, by omega, h2, fun j hj1 hj2 => ?_⟩
        by_cases e2 : j = m
        · rw [e2]; exact e
        · exact h3 j hj1 (by omega)
      · exact ⟨m, by omega, e, fun j h1 h2 => by omega⟩
  obtain ⟨x, hxm, hx0⟩ := hx
  obtain ⟨i, hi, rfl⟩ := List.getElem_of_mem hxm
  exact key n (Nat.le_refl _) ⟨i, by omega, by rw [getD_of (List.getElem?_eq_getElem hi)]; exact hx0⟩
theorem int_sq_one {z : Int} (h : z ≠ 0) : (1 : Rat) ≤ (z : Rat) * (z : Rat) := by
  refine wh_one ⟨z * z, by rw [Rat.intCast_mul]⟩ ?_
  have h1 := mul_self_nn (z : Rat)
  by_cases e : (z : Rat) * (z : Rat) = 0
  · exact absurd (rat_int0 (mul_self_z e)) h
  · grind
/-- a row that is made is as long as some upright -/
theorem made_h {w : Nat} {rows : Tb} (G : Gs w rows) {ws : List Int} (hw : ws.length = rows.length) (hx : ∃ x ∈ ws, x ≠ 0) : ∃ k, k < rows.length ∧ ee (Gr rows) k k k ≤ Nq (madeM rows ws) := by
  obtain ⟨k, hk, h1, h2⟩ := last_nz rows.length ws hw hx
  refine ⟨k, hk, ?_⟩
  have hs := sh_last G hw hk h2
  have hm : (ups rows).getD k [] ∈ ups rows := by rw [ups_getD hk]; exact List.mem_of_getElem? (ups_at hk)
  have hq := sh_sq (x := madeM rows ws) (u := (ups rows).getD k []) (by rw [madeM_len G.wd G.n0, G.rt.wid _ hm]) (G.rt.nz _ hm)
  rw [hs, ee_h G hk] at hq
  have h3 := int_sq_one h1
  have h4 := ee_pos G hk
  have h5 := le_mul h3 (show 0 ≤ ee (Gr rows) k k k by grind)
  grind
theorem made_nz {w : Nat} {rows : Tb} (G : Gs w rows) {ws : List Int} (hw : ws.length = rows.length) (hx : ∃ x ∈ ws, x ≠ 0) : 0 < Nq (madeM rows ws) := by
  obtain ⟨k, hk, h⟩ := made_h G hw hx
  have := ee_pos G hk
  grind
/-- what is no nought is made by weights that are not all 0 -/
theorem inl_nz {w : Nat} {rows : Tb} (G : Gs w rows) {v : List Int} (h : InL rows v) (hv : 0 < Nq v) : ∃ ws : List Int, ws.length = rows.length ∧ madeM rows ws = v ∧ ∃ x ∈ ws, x ≠ 0 := by
  obtain ⟨ws, h1, h2⟩ := h
  refine ⟨ws, h1, h2, ?_⟩
  by_cases e : ∃ x ∈ ws, x ≠ 0
  · exact e
  · exfalso
    have hz : ∀ x ∈ ws, x = 0 := fun x hx => by
      by_cases q : x = 0
      · exact q
      · exact absurd ⟨x, hx, q⟩ e
    have : Nq v = 0 := by
      rw [← h2]
      unfold Nq
      rw [madeM_dq G.wd G.n0]
      have key : ∀ l : List (Int × List Int), (∀ p ∈ l, p.1 = 0) → tot (l.map fun p => (p.1 : Rat) * dq (fq p.2) (fq (madeM rows ws))) = 0 := by
        intro l
        induction l with
        | nil => intro _; rfl
        | cons p l ih =>
          intro hp
          rw [List.map_cons, tot_cons, ih fun q hq => hp q (List.mem_cons_of_mem _ hq), hp p List.mem_cons_self]
          have : ((0 : Int) : Rat) = 0 := rfl
          grind
      exact key _ fun p hp => hz _ (List.of_mem_zip hp).1
    grind
/-! ### trim rows -/
theorem trim_at {w : Nat} {rows : Tb} (G : Gs w rows) (h : trimM rows = true) {i : Nat} (hi : i + 1 < rows.length) : ee (Gr rows) i i i ≤ 2 * ee (Gr rows) (i + 1) (i + 1) (i + 1) := by
  have hs := shs_get G hi
  have hm := enumI_at hs
  have ha : trimB (hgtM rows) (((i + 1 : Nat) : Int), ((ups rows).take (i + 1)).map fun u => sh (rows.getD (i + 1) []) u) = true := by
    unfold trimM at h
    exact List.all_eq_true.mp h _ (List.mem_of_getElem? hm)
  unfold trimB at ha
  rw [Bool.and_eq_true] at ha
  obtain ⟨h1, h2⟩ := ha
  have hl : (((ups rows).take (i + 1)).map fun u => sh (rows.getD (i + 1) []) u).length = i + 1 := by rw [List.length_map, List.length_take, ups_len]; omega
  have h1 := show (!((((ups rows).take (i + 1)).map fun u => sh (rows.getD (i + 1) []) u).any bigM)) = true from h1
  have h2 := show (((((i + 1 : Nat) : Int) == 0)) || standM ((hgtM rows).getD (((i + 1 : Nat) : Int) - 1).toNat 0) ((hgtM rows).getD (((i + 1 : Nat) : Int)).toNat 0) ((((ups rows).take (i + 1)).map fun u => sh (rows.getD (i + 1) []) u).getD ((((ups rows).take (i + 1)).map fun u => sh (rows.getD (i + 1) []) u).length - 1) 0)) = true from h2
  rw [show (((i + 1 : Nat) : Int) == 0) = false by simp; omega, show (((i + 1 : Nat) : Int) - 1).toNat = i by omega, show (((i + 1 : Nat) : Int)).toNat = i + 1 by omega, hl, show i + 1 - 1 = i by omega, hgt_ee G (by omega), hgt_ee G hi, Bool.false_or] at h2
  have hx : (((ups rows).take (i + 1)).map fun u => sh (rows.getD (i + 1) []) u)[i]? = some (sh (rows.getD (i + 1) []) ((ups rows).getD i [])) := by
    rw [List.getElem?_map, List.getElem?_take, if_pos (by omega), ups_at (by omega), ups_getD (by omega)]
    rfl
  rw [getD_of hx] at h2
  have hb : bigM (sh (rows.getD (i + 1) []) ((ups rows).getD i [])) = false := by
    have h3 : (((ups rows).take (i + 1)).map fun u => sh (rows.getD (i + 1) []) u).any bigM = false := by simpa using h1
    have := List.any_eq_false.mp h3 _ (List.mem_of_getElem? hx)
    simpa using this
  have hf := big_hf hb
  generalize sh (rows.getD (i + 1) []) ((ups rows).getD i []) = m at *
  have hl := ee_pos G (show i < rows.length by omega)
  unfold standM at h2
  have h4 : ¬ ee (Gr rows) (i + 1) (i + 1) (i + 1) < leastQ (ee (Gr rows) i i i) m := fun z => by
    rw [decide_eq_true z] at h2
    cases h2
  unfold leastQ at h4
  generalize ee (Gr rows) (i + 1) (i + 1) (i + 1) = hh at *
  generalize ee (Gr rows) i i i = l at *
  have q1 := hf.1
  have q2 := hf.2
  have h5 := Rat.mul_nonneg (show 0 ≤ 2 * m + 1 by grind) (show 0 ≤ 1 - 2 * m by grind)
  have h6 : m * m ≤ 1 / 4 := by grind
  have h7 := le_mul h6 (show 0 ≤ l by grind)
  grind
theorem trim_chain {w : Nat} {rows : Tb} (G : Gs w rows) (h : trimM rows = true) : ∀ k, k < rows.length → ee (Gr rows) 0 0 0 ≤ Bp 2 k * ee (Gr rows) k k k
  | 0, _ => by
    show _ ≤ 1 * _
    grind
  | k + 1, hk => by
    have ih := trim_chain G h k (by omega)
    have h1 := trim_at G h hk
    have h2 := Bp_pos (B := 2) (by decide) k
    have h3 := le_mul h1 (show 0 ≤ Bp 2 k by grind)
    show _ ≤ Bp 2 k * 2 * _
    grind
/-- the first trim row is short enough beside each row that is made -/
theorem trim_short {w : Nat} {rows : Tb} (G : Gs w rows) (h : trimM rows = true) {v : List Int} (hv : InL rows v) (h0 : 0 < Nq v) : ee (Gr rows) 0 0 0 ≤ Bp 2 (rows.length - 1) * Nq v := by
  obtain ⟨ws, h1, h2, h3⟩ := inl_nz G hv h0
  obtain ⟨k, hk, h4⟩ := made_h G h1 h3
  rw [h2] at h4
  have h5 := trim_chain G h k hk
  have h6 := Bp_mono (B := 2) (by decide) (show k ≤ rows.length - 1 by omega)
  have h7 := ee_pos G hk
  have h8 := Bp_pos (B := 2) (by decide) k
  have h9 := mul_le2 h6 h4 (by grind) (by grind)
  grind
/-- and beside what the rows enclose -/
theorem trim_vol {w : Nat} {rows : Tb} (G : Gs w rows) (h : trimM rows = true) : ∀ k, k ≤ rows.length → Bp (ee (Gr rows) 0 0 0) k ≤ Bp 2 (k * (k - 1) / 2) * de (Gr rows) k
  | 0, _ => by
    show (1 : Rat) ≤ 1 * 1
    grind
  | k + 1, hk => by
    have ih := trim_vol G h k (by omega)
    have h1 := trim_chain G h k (by omega)
    have h2 := ee_pos G (show 0 < rows.length by omega)
    have h3 := de_pos G k (by omega)
    have h4 := Bp_pos (B := 2) (by decide) (k * (k - 1) / 2)
    have e : (k + 1) * (k + 1 - 1) / 2 = k * (k - 1) / 2 + k := by
      have : k ≤ 3 := by have := G.n4; omega
      rcases (show k = 0 ∨ k = 1 ∨ k = 2 ∨ k = 3 by omega) with z | z | z | z <;> subst z <;> decide
    have hadd : ∀ a b, Bp 2 (a + b) = Bp 2 a * Bp 2 b := by
      intro a b
      induction b with
      | zero => show _ = _ * (1 : Rat); grind
      | succ b ih => show Bp 2 (a + b) * 2 = Bp 2 a * (Bp 2 b * 2); rw [ih]; grind
    rw [e, hadd]
    show Bp (ee (Gr rows) 0 0 0) k * ee (Gr rows) 0 0 0 ≤ Bp 2 (k * (k - 1) / 2) * Bp 2 k * (de (Gr rows) k * ee (Gr rows) k k k)
    have hm := mul_le2 ih h1 (by grind) (by have := Rat.mul_nonneg (show 0 ≤ Bp 2 (k * (k - 1) / 2) by grind) (show 0 ≤ de (Gr rows) k by grind); exact this)
    grind
end Mi
namespace Mi
theorem Bp_int (z : Int) : ∀ k, Bp (z : Rat) k = ((z ^ k : Int) : Rat)
  | 0 => by rw [Int.pow_zero]; rfl
  | k + 1 => by
    show Bp (z : Rat) k * (z : Rat) = _
    rw [Bp_int z k, Int.pow_succ, Rat.intCast_mul]
theorem ee_00 (rows : Tb) : ee (Gr rows) 0 0 0 = Nq (rows.getD 0 []) := rfl
theorem TrimOk.inl {w : Nat} {rows : Tb} (T : TrimOk w rows) {v : List Int} (h : InL rows v) : InL (trimF rows) v :=
  InL.trans T.gs0.wd T.gs.wd T.gs0.n0 T.gs.n0 T.pi.bk h
theorem TrimOk.inl2 {w : Nat} {rows : Tb} (T : TrimOk w rows) {v : List Int} (h : InL (trimF rows) v) : InL rows v :=
  InL.trans T.gs.wd T.gs0.wd T.gs.n0 T.gs0.n0 (fun r hr => by
    obtain ⟨p, hp, rfl⟩ := List.mem_map.mp hr
    exact ⟨p.2, T.pi.wl p hp, T.pi.md p hp⟩) h
theorem two_int : (2 : Rat) = ((2 : Int) : Rat) := rfl
theorem TrimOk.short {w : Nat} {rows : Tb} (T : TrimOk w rows) {v : List Int} (h : InL (trimF rows) v) (h0 : 0 < Nq v) : dotI ((trimF rows).getD 0 []) ((trimF rows).getD 0 []) ≤ ([1, 2, 4, 8] : List Int).getD (rows.length - 1) 0 * dotI v v ∧ 0 < dotI ((trimF rows).getD 0 []) ((trimF rows).getD 0 []) := by
  have h1 := trim_short T.gs T.tr h h0
  have h2 := ee_pos T.gs T.gs.n0
  rw [ee_00, Nq_int] at h1 h2
  rw [Nq_int, T.len, two_int, Bp_int, ← Rat.intCast_mul] at h1
  have e : (2 : Int) ^ (rows.length - 1) = ([1, 2, 4, 8] : List Int).getD (rows.length - 1) 0 := by
    have := T.gs0.n4
    have := T.gs0.n0
    rcases (show rows.length = 1 ∨ rows.length = 2 ∨ rows.length = 3 ∨ rows.length = 4 by omega) with z | z | z | z <;> rw [z] <;> rfl
  rw [e] at h1
  refine ⟨by exact_mod_cast h1, ?_⟩
  have : ((0 : Int) : Rat) < ((dotI ((trimF rows).getD 0 []) ((trimF rows).getD 0 []) : Int) : Rat) := h2
  exact_mod_cast this
theorem TrimOk.encl {w : Nat} {rows : Tb} (T : TrimOk w rows) : dotI ((trimF rows).getD 0 []) ((trimF rows).getD 0 []) ^ rows.length ≤ ([1, 2, 8, 64] : List Int).getD (rows.length - 1) 0 * Mi.vol rows := by
  have h1 := trim_vol T.gs T.tr rows.length (by rw [T.len]; exact Nat.le_refl _)
  have h2 := vp_de T.gs (m := rows.length) (by rw [T.len]; exact Nat.le_refl _)
  rw [List.take_of_length_le (by rw [T.len]; exact Nat.le_refl _), T.vol] at h2
  rw [ee_00, Nq_int, ← h2, Bp_int, two_int, Bp_int, ← Rat.intCast_mul] at h1
  have e : (2 : Int) ^ (rows.length * (rows.length - 1) / 2) = ([1, 2, 8, 64] : List Int).getD (rows.length - 1) 0 := by
    have := T.gs0.n4
    have := T.gs0.n0
    rcases (show rows.length = 1 ∨ rows.length = 2 ∨ rows.length = 3 ∨ rows.length = 4 by omega) with z | z | z | z <;> rw [z] <;> rfl
  rw [e] at h1
  exact_mod_cast h1
/-- all of the weights 0 -/
theorem top_zero {ws : List Int} (h : ws ≠ []) : top (ws.map fun x => (x.natAbs : Int)) = 0 ↔ ¬ ∃ x ∈ ws, x ≠ 0 := by
  have hne : (ws.map fun x => (x.natAbs : Int)) ≠ [] := by
    intro z
    exact h (List.map_eq_nil_iff.mp z)
  obtain ⟨h1, h2⟩ := top_mem hne
  constructor
  · rintro e ⟨x, hx, hn⟩
    have := h2 _ (List.mem_map.mpr ⟨x, hx, rfl⟩)
    omega
  · intro hn
    obtain ⟨x, hx, hxe⟩ := List.mem_map.mp h1
    by_cases e : x = 0
    · rw [← hxe, e]; rfl
    · exact absurd ⟨x, hx, e⟩ hn
end Mi

/-! The search for the shortest row: sizes level by level. -/
set_option maxHeartbeats 4000000
namespace Mi
def midM (F : Tb) (a : Int) (ws : List Int) : Rat := tot ((enumI ws).map fun p => ((p.2 : Int) : Rat) * ((shsM F).getD (a + 1 + p.1).toNat []).getD a.toNat 0)
def sizeM (F : Tb) (a : Int) (ws : List Int) (used : Rat) (wt : Int) : Rat := used + ((wt : Rat) + midM F a ws) * ((wt : Rat) + midM F a ws) * (hgtM F).getD a.toNat 0
/-- how long a row is, by its last weights -/
def US (F : Tb) : List Int → Rat
  | [] => 0
  | x :: ws => sizeM F ((F.length : Int) - 1 - (ws.length : Int)) ws (US F ws) x
theorem shs_get2 {w : Nat} {F : Tb} (G : Gs w F) {a j : Nat} (ha : a < j) (hj : j < F.length) : ((shsM F).getD j []).getD a 0 = sh (F.getD j []) ((ups F).getD a []) := by
  rw [getD_of (shs_get G hj)]
  refine getD_of ?_
  rw [List.getElem?_map, List.getElem?_take, if_pos ha, ups_at (by omega), ups_getD (by omega)]
  rfl
/-- a share of a row that is made -/
theorem sh_made {w : Nat} {F : Tb} (G : Gs w F) {x : List Int} (hx : x.length = F.length) {a : Nat} (ha : a < F.length) : sh (madeM F x) ((ups F).getD a []) = ((x.getD a 0 : Int) : Rat) + midM F (a : Int) (x.drop (a + 1)) := by
  have hax : a < x.length := by omega
  have hnz : dq ((ups F).getD a []) ((ups F).getD a []) ≠ 0 := by
    rw [ups_getD ha]
    exact G.rt.nz _ (List.mem_of_getElem? (ups_at ha))
  rw [sh_tot _ hnz (madeM_dq G.wd G.n0 x _)]
  have hzl : (x.zip F).length = F.length := by rw [List.length_zip]; omega
  have hz : (x.zip F)[a]'(by omega) = (x[a], F.getD a []) := by rw [List.getElem_zip, getD_of (List.getElem?_eq_getElem ha)]
  have e : x.zip F = (x.zip F).take a ++ ((x[a], F.getD a []) :: (x.zip F).drop (a + 1)) := by
    rw [← hz, ← List.drop_eq_getElem_cons (by omega), List.take_append_drop]
  rw [e, List.map_append, tot_app, List.map_cons, tot_cons]
  have key : ∀ l : List (Int × List Int), (∀ p ∈ l, (p.1 : Rat) * sh p.2 ((ups F).getD a []) = 0) → tot (l.map fun p => (p.1 : Rat) * sh p.2 ((ups F).getD a [])) = 0 := by
    intro l
    induction l with
    | nil => intro _; rfl
    | cons p l ih => intro hp; rw [List.map_cons, tot_cons, ih fun q hq => hp q (List.mem_cons_of_mem _ hq), hp p List.mem_cons_self]; grind
  rw [key _ fun p hp => ?_]
  · have e2 : ((x.zip F).drop (a + 1)).map (fun p => (p.1 : Rat) * sh p.2 ((ups F).getD a [])) = (enumI (x.drop (a + 1))).map fun p => ((p.2 : Int) : Rat) * ((shsM F).getD ((a : Int) + 1 + p.1).toNat []).getD ((a : Int)).toNat 0 := by
      refine List.ext_getElem (by rw [List.length_map, List.length_map, enumI_len, List.length_drop, List.length_drop]; omega) fun k h1 h2 => ?_
      rw [List.length_map, List.length_drop] at h1
      rw [List.getElem_map, List.getElem_map, List.getElem_drop, List.getElem_zip]
      have h3 : (enumI (x.drop (a + 1)))[k]? = some ((k : Int), x[a + 1 + k]) := enumI_at (by rw [List.getElem?_drop, List.getElem?_eq_getElem (by omega)])
      rw [List.getElem?_eq_getElem (by rw [List.length_map] at h2; exact h2)] at h3
      rw [Option.some.inj h3]
      show ((x[a + 1 + k] : Int) : Rat) * sh (F[a + 1 + k]) _ = ((x[a + 1 + k] : Int) : Rat) * ((shsM F).getD ((a : Int) + 1 + (k : Int)).toNat []).getD ((a : Int)).toNat 0
      rw [show ((a : Int) + 1 + (k : Int)).toNat = a + 1 + k by omega, Int.toNat_natCast, shs_get2 G (by omega) (by omega), getD_of (xs := F) (List.getElem?_eq_getElem (show a + 1 + k < F.length by omega))]
    rw [e2, getD_of (xs := x) (List.getElem?_eq_getElem hax)]
    show 0 + (((x[a] : Int) : Rat) * sh (F.getD a []) ((ups F).getD a []) + midM F (a : Int) (x.drop (a + 1))) = _
    rw [ups_getD ha, sh_self G ha]
    grind
  · obtain ⟨j, hj⟩ := List.mem_iff_getElem?.mp hp
    rw [List.getElem?_take] at hj
    by_cases hjk : j < a
    · rw [if_pos hjk, List.getElem?_eq_getElem (by omega), List.getElem_zip] at hj
      rw [← Option.some.inj hj]
      show _ * sh (F[j]) _ = 0
      have := sh_ahead G ha hjk
      rw [getD_of (List.getElem?_eq_getElem (show j < F.length by omega)), ← ups_getD ha] at this
      rw [this]
      grind
    · rw [if_neg hjk] at hj; cases hj
/-- what is left of a row that is made is nought -/
theorem res_zero {w : Nat} {F : Tb} (G : Gs w F) (x : List Int) : dq (up (ups F) (madeM F x)) (up (ups F) (madeM F x)) = 0 := by
  have hml : (madeM F x).length = w := madeM_len G.wd G.n0
  have hrt := up_rt G.rt hml
  have h1 := up_dq_rt G.rt hml (z := up (ups F) (madeM F x)) (fun u hu => by rw [dq_comm]; exact hrt u hu)
  rw [h1, madeM_dq G.wd G.n0 x]
  have key : ∀ l : List (Int × List Int), (∀ p ∈ l, dq (fq p.2) (up (ups F) (madeM F x)) = 0) → tot (l.map fun p => (p.1 : Rat) * dq (fq p.2) (up (ups F) (madeM F x))) = 0 := by
    intro l
    induction l with
    | nil => intro _; rfl
    | cons p l ih => intro hp; rw [List.map_cons, tot_cons, ih fun q hq => hp q (List.mem_cons_of_mem _ hq), hp p List.mem_cons_self]; grind
  refine key _ fun p hp => ?_
  obtain ⟨j, hj, e⟩ := List.getElem_of_mem (List.of_mem_zip hp).2
  rw [← e, ← getD_of (d := []) (List.getElem?_eq_getElem hj)]
  obtain ⟨Rj, _⟩ := gs_ee G.wd j (by omega) fun m hm => G.nz m (by omega)
  have hz : ∀ u ∈ ups F, dq u (up (ups F) (madeM F x)) = 0 := fun u hu => by rw [dq_comm]; exact hrt u hu
  rw [← up_dq_rt Rj (G.wd.at hj) (fun u hu => hz u (by rw [← ups_take] at hu; exact List.mem_of_mem_take hu))]
  exact hz _ (List.mem_of_getElem? (ups_at hj))
theorem US_drop {w : Nat} {F : Tb} (G : Gs w F) {x : List Int} (hx : x.length = F.length) : ∀ k, k ≤ F.length → US F (x.drop (F.length - k)) = tot (((ups F).drop (F.length - k)).map fun u => sh (madeM F x) u * sh (madeM F x) u * dq u u)
  | 0, _ => by
    rw [Nat.sub_zero, List.drop_of_length_le (by omega), List.drop_of_length_le (by rw [ups_len]; exact Nat.le_refl _)]
    rfl
  | k + 1, hk => by
    have ih := US_drop G hx k (by omega)
    obtain ⟨a, ha⟩ : ∃ a, F.length - (k + 1) = a := ⟨_, rfl⟩
    have ha2 : F.length - k = a + 1 := by omega
    have hal : a < F.length := by omega
    rw [ha2] at ih
    rw [ha, List.drop_eq_getElem_cons (show a < x.length by omega), List.drop_eq_getElem_cons (show a < (ups F).length by rw [ups_len]; exact hal), List.map_cons, tot_cons, ← ih]
    have hu : (ups F)[a]'(by rw [ups_len]; exact hal) = (ups F).getD a [] := (getD_of (List.getElem?_eq_getElem _)).symm
    rw [hu, sh_made G hx hal, getD_of (xs := x) (List.getElem?_eq_getElem (show a < x.length by omega)), ee_h G hal]
    show sizeM F ((F.length : Int) - 1 - ((x.drop (a + 1)).length : Int)) (x.drop (a + 1)) (US F (x.drop (a + 1))) x[a] = _
    rw [List.length_drop, show (F.length : Int) - 1 - ((x.length - (a + 1) : Nat) : Int) = (a : Int) by omega]
    unfold sizeM
    rw [Int.toNat_natCast, hgt_ee G hal]
    grind
theorem US_full {w : Nat} {F : Tb} (G : Gs w F) {x : List Int} (hx : x.length = F.length) : US F x = Nq (madeM F x) := by
  have h := US_drop G hx F.length (Nat.le_refl _)
  rw [Nat.sub_self, List.drop_zero, List.drop_zero] at h
  rw [h, parseval G.rt (madeM_len G.wd G.n0), res_zero G x]
  grind
theorem US_cons {w : Nat} {F : Tb} (G : Gs w F) (x : Int) (ws : List Int) (h : ws.length < F.length) : US F ws ≤ US F (x :: ws) := by
  show _ ≤ US F ws + _ * _ * (hgtM F).getD _ 0
  have h1 := ee_pos G (show (((F.length : Int) - 1 - (ws.length : Int)).toNat) < F.length by omega)
  rw [hgt_ee G (by omega)]
  have h2 := Rat.mul_nonneg (mul_self_nn ((x : Rat) + midM F ((F.length : Int) - 1 - (ws.length : Int)) ws)) (show 0 ≤ ee (Gr F) ((F.length : Int) - 1 - (ws.length : Int)).toNat ((F.length : Int) - 1 - (ws.length : Int)).toNat ((F.length : Int) - 1 - (ws.length : Int)).toNat by grind)
  grind
theorem US_suffix {w : Nat} {F : Tb} (G : Gs w F) {x : List Int} (hx : x.length = F.length) : ∀ a, a ≤ F.length → US F (x.drop a) ≤ Nq (madeM F x) := by
  intro a
  induction a with
  | zero => intro _; rw [List.drop_zero, US_full G hx]; exact Rat.le_refl
  | succ a ih =>
    intro ha
    have h1 := ih (by omega)
    rw [List.drop_eq_getElem_cons (show a < x.length by omega)] at h1
    have h2 := US_cons G x[a] (x.drop (a + 1)) (by rw [List.length_drop]; omega)
    exact Rat.le_trans h2 h1
theorem US_nn {w : Nat} {F : Tb} (G : Gs w F) : ∀ ws : List Int, ws.length ≤ F.length → 0 ≤ US F ws
  | [], _ => Rat.le_refl
  | x :: ws, h => Rat.le_trans (US_nn G ws (by rw [List.length_cons] at h; omega)) (US_cons G x ws (by rw [List.length_cons] at h; omega))
/-! ### the state of the search -/
/-- best weights, and how long the row is that they make -/
structure SI (F : Tb) (best : List Int) (least : Int) : Prop where
  len : best.length = F.length
  nz : ∃ z ∈ best, z ≠ 0
  eq : least = dotI (madeM F best) (madeM F best)
  bd : ∀ x ∈ best, x.natAbs ≤ 2 ^ 40
/-- no row of these weights is shorter -/
def Cov (F : Tb) (least : Int) (S : List Int → Prop) : Prop := ∀ x : List Int, x.length = F.length → S x → 0 < dotI (madeM F x) (madeM F x) → least ≤ dotI (madeM F x) (madeM F x)
theorem Cov.le {F : Tb} {l l' : Int} {S : List Int → Prop} (h : Cov F l S) (hl : l' ≤ l) : Cov F l' S := fun x h1 h2 h3 => Int.le_trans hl (h x h1 h2 h3)
theorem Cov.or {F : Tb} {l : Int} {S T U : List Int → Prop} (h : Cov F l S) (k : Cov F l T) (e : ∀ x, x.length = F.length → U x → S x ∨ T x) : Cov F l U := fun x h1 h2 h3 => (e x h1 h2).elim (fun z => h x h1 z h3) (fun z => k x h1 z h3)
/-- weights from here on make rows that are too long -/
theorem cov_far {w : Nat} {F : Tb} (G : Gs w F) {a : Nat} (ha : a < F.length) {ws : List Int} (hw : ws.length = F.length - 1 - a) {first by1 : Int} (hby : by1 = 1 ∨ by1 = -1) (hm : 0 ≤ (by1 : Rat) * (2 * ((first : Rat) + midM F (a : Int) ws)) + 1) (k : Nat) {least : Int}
    (h : (least : Rat) < sizeM F (a : Int) ws (US F ws) (first + (k : Int) * by1)) : Cov F least (fun x => x.drop (a + 1) = ws ∧ ∃ j : Nat, k ≤ j ∧ x.getD a 0 = first + (j : Int) * by1) := by
  rintro x hx ⟨h1, j, hj, h2⟩ h3
  have hs := US_suffix G hx a (by omega)
  rw [List.drop_eq_getElem_cons (show a < x.length by omega), h1, ← getD_of (d := 0) (List.getElem?_eq_getElem (show a < x.length by omega)), h2] at hs
  have hs : sizeM F ((F.length : Int) - 1 - (ws.length : Int)) ws (US F ws) (first + (j : Int) * by1) ≤ _ := hs
  rw [hw, show (F.length : Int) - 1 - ((F.length - 1 - a : Nat) : Int) = (a : Int) by omega] at hs
  have hh := ee_pos G ha
  have hmono : sizeM F (a : Int) ws (US F ws) (first + (k : Int) * by1) ≤ sizeM F (a : Int) ws (US F ws) (first + (j : Int) * by1) := by
    by_cases ekj : k = j
    · rw [ekj]; exact Rat.le_refl
    unfold sizeM
    rw [Int.toNat_natCast, hgt_ee G ha]
    generalize midM F (a : Int) ws = m at *
    generalize ee (Gr F) a a a = hgt at *
    have hkj : ((k : Int) : Rat) ≤ ((j : Int) : Rat) := by exact_mod_cast (show (k : Int) ≤ (j : Int) by omega)
    have hk0 : ((0 : Int) : Rat) ≤ ((k : Int) : Rat) := by exact_mod_cast (show (0 : Int) ≤ (k : Int) by omega)
    have hjk1 : ((k : Int) : Rat) + 1 ≤ ((j : Int) : Rat) := by
      have : ((((k : Int) + 1 : Int)) : Rat) ≤ ((j : Int) : Rat) := by exact_mod_cast (show (k : Int) + 1 ≤ (j : Int) by omega)
      rw [Rat.intCast_add] at this
      exact this
    rw [Rat.intCast_add, Rat.intCast_add, Rat.intCast_mul, Rat.intCast_mul]
    have hz : ((0 : Int) : Rat) = 0 := rfl
    rw [hz] at hk0
    have hbb : (by1 : Rat) * (by1 : Rat) = 1 := by
      rcases hby with z | z <;> rw [z]
      · show ((1 : Int) : Rat) * ((1 : Int) : Rat) = 1
        have : ((1 : Int) : Rat) = 1 := rfl
        grind
      · show ((-1 : Int) : Rat) * ((-1 : Int) : Rat) = 1
        have : ((-1 : Int) : Rat) = -1 := rfl
        grind
    generalize (by1 : Rat) = b at *
    generalize (first : Rat) = f at *
    generalize ((k : Int) : Rat) = kk at *
    generalize ((j : Int) : Rat) = jj at *
    have d : 0 ≤ (jj - kk) * (jj + kk + b * (2 * (f + m))) := Rat.mul_nonneg (by grind) (by grind)
    have q : (f + jj * b + m) * (f + jj * b + m) - (f + kk * b + m) * (f + kk * b + m) = (jj - kk) * (jj + kk + b * (2 * (f + m))) := by
      have : (f + jj * b + m) * (f + jj * b + m) - (f + kk * b + m) * (f + kk * b + m) = (b * b) * ((jj - kk) * (jj + kk)) + (jj - kk) * (b * (2 * (f + m))) := by grind
      rw [this, hbb]
      grind
    have d2 := Rat.mul_nonneg (show 0 ≤ (f + jj * b + m) * (f + jj * b + m) - (f + kk * b + m) * (f + kk * b + m) by rw [q]; exact d) (show 0 ≤ hgt by grind)
    grind
  have h4 : (least : Rat) < ((dotI (madeM F x) (madeM F x) : Int) : Rat) := by
    rw [← Nq_int]
    grind
  have : least < dotI (madeM F x) (madeM F x) := by exact_mod_cast h4
  omega
end Mi

/-! The search: sizes of its fractions. -/
set_option maxHeartbeats 4000000
namespace Mi
def dT : Nat → Nat
  | 0 => 0
  | 1 => 29
  | 2 => 118
  | _ => 387
structure UsT (w : Nat) (us : List (List Rat)) : Prop where
  rt : Rt w us
  cm : ∀ (j : Nat) (u : List Rat), us[j]? = some u → Cm (dT j) (13 + dT j + j) u
theorem up_cmT {w : Nat} {us : List (List Rat)} {r : List Int} (U : UsT w us) (n3 : us.length ≤ 3) (hw : w ≤ 5) (hr : ∀ x ∈ r, x.natAbs ≤ 2 ^ 13) : ∀ k, k ≤ us.length → Cm (dT k) (13 + dT k + k) (upf r (us.take k) (fq r))
  | 0, _ => (fq_cm hr).mono (Nat.le_refl _) (by omega)
  | k + 1, hk => by
    have ih := up_cmT U n3 hw hr k (by omega)
    have hkl : k < us.length := hk
    have hu : us[k]? = some us[k] := List.getElem?_eq_getElem hkl
    have hm : us[k] ∈ us := List.getElem_mem hkl
    have e : upf r (us.take (k + 1)) (fq r) = ax (-(sh r us[k])) (upf r (us.take k) (fq r)) us[k] := by
      unfold upf
      rw [List.take_add_one, hu, List.foldl_append]
      rfl
    rw [e]
    have s := up_step (R := 13) (r := r) (by rw [U.rt.wid _ hm]; exact hw) ih (U.cm k _ hu) hr (U.rt.nz _ hm)
    have hd : dT k + (2 * (13 + dT k + k) + 3) = dT (k + 1) := by
      rcases (show k = 0 ∨ k = 1 ∨ k = 2 by omega) with h | h | h <;> subst h <;> rfl
    rw [hd] at s
    exact s
theorem gs_usT {w : Nat} {F : Tb} (G : Gs w F) (hb : ∀ r ∈ F, ∀ x ∈ r, x.natAbs ≤ 2 ^ 13) : ∀ k, k ≤ F.length → UsT w (ups (F.take k))
  | 0, _ => ⟨(gs_ee G.wd 0 (Nat.zero_le _) fun m hm => G.nz m (by omega)).1, fun j u hj => by rw [List.take_zero] at hj; cases hj⟩
  | k + 1, hk => by
    have ih := gs_usT G hb k (by omega)
    have hkn : k < F.length := by omega
    have n4 := G.n4
    refine ⟨(gs_ee G.wd (k + 1) hk fun m hm => G.nz m (by omega)).1, fun j u hj => ?_⟩
    rw [take_snoc hkn, ups_snoc] at hj
    have hl : (ups (F.take k)).length = k := by rw [ups_len, List.length_take]; omega
    by_cases h : j < k
    · rw [List.getElem?_append_left (by omega)] at hj
      exact ih.cm j u hj
    · rw [List.getElem?_append_right (by omega)] at hj
      have hjl : j = k := by
        have := (List.getElem?_eq_some_iff.mp hj).1
        rw [List.length_singleton] at this
        omega
      subst hjl
      rw [hl, Nat.sub_self] at hj
      have hu : up (ups (F.take j)) (F.getD j []) = u := Option.some.inj hj
      have := up_cmT ih (by omega) G.w5 (hb _ (getD_mem hkn)) (ups (F.take j)).length (Nat.le_refl _)
      rw [List.take_length, hl] at this
      rw [← hu]
      exact this
theorem ups_cmT {w : Nat} {F : Tb} (G : Gs w F) (hb : ∀ r ∈ F, ∀ x ∈ r, x.natAbs ≤ 2 ^ 13) {a : Nat} (ha : a < F.length) : Cm (dT a) (13 + dT a + a) ((ups F).getD a []) ∧ ((ups F).getD a []).length ≤ 5 ∧ dq ((ups F).getD a []) ((ups F).getD a []) ≠ 0 := by
  have h := gs_usT G hb F.length (Nat.le_refl _)
  rw [List.take_length] at h
  have hu : (ups F)[a]? = some ((ups F).getD a []) := by rw [ups_getD ha]; exact ups_at ha
  have hm := List.mem_of_getElem? hu
  exact ⟨h.cm a _ hu, by rw [G.rt.wid _ hm]; exact G.w5, G.rt.nz _ hm⟩
/-- an upright's height -/
theorem hgt_ovT {w : Nat} {F : Tb} (G : Gs w F) (hb : ∀ r ∈ F, ∀ x ∈ r, x.natAbs ≤ 2 ^ 13) {a : Nat} (ha : a < F.length) : ∃ D : Nat, 0 < D ∧ D ≤ 2 ^ (2 * dT a) ∧ Ov D (2 ^ (2 * (13 + dT a + a) + 3)) (ee (Gr F) a a a) := by
  obtain ⟨⟨D, d0, d1, d2⟩, hl, _⟩ := ups_cmT G hb ha
  refine ⟨D * D, Nat.mul_pos d0 d0, by rw [Nat.two_mul]; exact pm d1 d1, ?_⟩
  rw [← ee_h G ha]
  refine (square_ov d2 hl).mono (five ?_)
  rw [Nat.two_mul]
  exact pm (Nat.le_refl _) (Nat.le_refl _)
/-- the shares of an upright that has rows behind it -/
theorem sh_ovT {w : Nat} {F : Tb} (G : Gs w F) (hb : ∀ r ∈ F, ∀ x ∈ r, x.natAbs ≤ 2 ^ 13) {a : Nat} (ha : a + 1 < F.length) : ∃ E : Nat, 0 < E ∧ E ≤ 2 ^ 269 ∧ ∀ r ∈ F, Ov E (2 ^ 267) (sh r ((ups F).getD a [])) := by
  obtain ⟨⟨D, d0, d1, d2⟩, hl, hnz⟩ := ups_cmT G hb (show a < F.length by omega)
  have n4 := G.n4
  have hd : dT a ≤ 118 := by rcases (show a = 0 ∨ a = 1 ∨ a = 2 by omega) with h | h | h <;> subst h <;> decide
  have hN : 13 + dT a + a ≤ 133 := by rcases (show a = 0 ∨ a = 1 ∨ a = 2 by omega) with h | h | h <;> subst h <;> decide
  have hs := square_ov d2 hl
  have hp := pos_of_nz hnz
  obtain ⟨E, e0, e1, e2, _⟩ := share_ov d0 (Ov.zero (D := D)) hs hp
  refine ⟨E, e0, Nat.le_trans (Nat.le_trans e1 (five (pm (Nat.le_refl _) (Nat.le_refl _)))) (p2 (by omega)), fun r hr => ?_⟩
  obtain ⟨E', e0', e1', e2', e3⟩ := share_ov d0 (along_ov (hb r hr) d2 hl) hs hp
  have : E' = E := by
    have h : ((E' : Int) : Rat) = ((E : Int) : Rat) := by
      show (E' : Rat) = (E : Rat)
      rw [e2, e2']
    have := int_inj h
    omega
  rw [← this]
  exact e3.mono (Nat.le_trans (pm (five (pm (Nat.le_refl _) (Nat.le_refl _))) d1) (p2 (by omega)))
def prodsM (F : Tb) (a : Int) (ws : List Int) : List Rat := (enumI ws).map fun p => ((p.2 : Int) : Rat) * ((shsM F).getD (a + 1 + p.1).toNat []).getD a.toNat 0
/-- all that is reckoned at a level -/
structure LvOk (F : Tb) (a : Int) (ws : List Int) (wt : Int) : Prop where
  sh : ∀ p ∈ enumI ws, Sz ((p.2 : Int) : Rat) ∧ Sz (((shsM F).getD (a + 1 + p.1).toNat []).getD a.toNat 0)
  prod : ∀ x ∈ prodsM F a ws, Sz x
  part : ∀ k, Sz (tot ((prodsM F a ws).take k))
  szw : Sz (wt : Rat)
  mid : Sz (midM F a ws)
  often : Sz ((wt : Rat) + midM F a ws)
  sq : Sz (((wt : Rat) + midM F a ws) * ((wt : Rat) + midM F a ws))
  hgt : Sz ((hgtM F).getD a.toNat 0)
  term : Sz (((wt : Rat) + midM F a ws) * ((wt : Rat) + midM F a ws) * (hgtM F).getD a.toNat 0)
  used : Sz (US F ws)
  size : Sz (sizeM F a ws (US F ws) wt)
theorem sz_w {z : Int} (h : z.natAbs ≤ 2 ^ 40) : Sz (z : Rat) := sz_int (Nat.le_trans h (p2 (by decide)))
/-- one level: over E, and what is added there -/
theorem lev {w : Nat} {F : Tb} (G : Gs w F) (hb : ∀ r ∈ F, ∀ x ∈ r, x.natAbs ≤ 2 ^ 13) {a : Nat} (ha : a < F.length) {ws : List Int} (hw : ws.length = F.length - 1 - a) (hwb : ∀ x ∈ ws, x.natAbs ≤ 2 ^ 40) {wt : Int} (ht : wt.natAbs ≤ 2 ^ 40) :
    (∃ E : Nat, 0 < E ∧ E ≤ 2 ^ 269 ∧ (∀ x ∈ prodsM F (a : Int) ws, Ov E (2 ^ 307) x) ∧ (∀ p ∈ enumI ws, Sz (((shsM F).getD ((a : Int) + 1 + p.1).toNat []).getD ((a : Int)).toNat 0)) ∧ Ov E (2 ^ 310) ((wt : Rat) + midM F (a : Int) ws)) ∧
    ∃ D : Nat, 0 < D ∧ D ≤ 2 ^ 774 ∧ Ov D (2 ^ 889) (((wt : Rat) + midM F (a : Int) ws) * ((wt : Rat) + midM F (a : Int) ws) * (hgtM F).getD ((a : Int)).toNat 0) := by
  have n4 := G.n4
  obtain ⟨H, h0, h1, h2⟩ := hgt_ovT G hb ha
  rw [Int.toNat_natCast, hgt_ee G ha]
  by_cases hlast : a + 1 = F.length
  · have e : ws = [] := List.eq_nil_of_length_eq_zero (by omega)
    subst e
    have em : midM F (a : Int) [] = 0 := rfl
    rw [em]
    have ho : Ov 1 (2 ^ 40) ((wt : Rat) + 0) := by
      have := (Ov.int wt).mono ht
      have e : (wt : Rat) + 0 = (wt : Rat) := by grind
      rw [e]
      exact this
    refine ⟨⟨1, by decide, Nat.pow_pos (by decide), fun x hx => (by cases hx), fun p hp => (by cases hp), ho.mono (p2 (by decide))⟩, 1 * 1 * H, by omega, ?_, ((ho.mul ho).mul h2).mono ?_⟩
    · rw [show 1 * 1 * H = H by omega]
      exact Nat.le_trans h1 (p2 (by rcases (show a = 0 ∨ a = 1 ∨ a = 2 ∨ a = 3 by omega) with h | h | h | h <;> subst h <;> decide))
    · exact Nat.le_trans (pm (pm (Nat.le_refl _) (Nat.le_refl _)) (Nat.le_refl _)) (p2 (by rcases (show a = 0 ∨ a = 1 ∨ a = 2 ∨ a = 3 by omega) with h | h | h | h <;> subst h <;> decide))
  · obtain ⟨E, e0, e1, e2⟩ := sh_ovT G hb (show a + 1 < F.length by omega)
    have hsh : ∀ p ∈ enumI ws, Ov E (2 ^ 267) (((shsM F).getD ((a : Int) + 1 + p.1).toNat []).getD a 0) := fun p hp => by
      obtain ⟨k, hk⟩ := List.mem_iff_getElem?.mp hp
      obtain ⟨h3, h4⟩ := enumI_get hk
      have hkl : k < ws.length := (List.getElem?_eq_some_iff.mp h4).1
      rw [h3, show ((a : Int) + 1 + (k : Int)).toNat = a + 1 + k by omega, shs_get2 G (by omega) (by omega)]
      exact e2 _ (getD_mem (by omega))
    have hprod : ∀ x ∈ prodsM F (a : Int) ws, Ov E (2 ^ 307) x := fun x hx => by
      obtain ⟨p, hp, rfl⟩ := List.mem_map.mp hx
      obtain ⟨k, hk⟩ := List.mem_iff_getElem?.mp hp
      obtain ⟨_, h4⟩ := enumI_get hk
      have := ((Ov.int p.2).mono (hwb _ (List.mem_of_getElem? h4))).mul (hsh p hp)
      rw [Nat.one_mul] at this
      exact this.mono (Nat.le_trans (pm (Nat.le_refl _) (Nat.le_refl _)) (p2 (by decide)))
    have hpl : (prodsM F (a : Int) ws).length ≤ 3 := by unfold prodsM; rw [List.length_map, enumI_len]; omega
    have hmid : Ov E (2 ^ 309) (midM F (a : Int) ws) := (tot_ov _ hprod).mono (Nat.le_trans (Nat.mul_le_mul_right _ (Nat.le_trans hpl (show 3 ≤ 2 ^ 2 by decide))) (Nat.le_trans (pm (Nat.le_refl _) (Nat.le_refl _)) (p2 (by decide))))
    have hwt : Ov E (2 ^ 309) (wt : Rat) := by
      have := ((Ov.int wt).mono ht).scale (E := E)
      rw [Nat.one_mul] at this
      exact this.mono (Nat.le_trans (pm (Nat.le_refl _) e1) (p2 (by decide)))
    have hoft : Ov E (2 ^ 310) ((wt : Rat) + midM F (a : Int) ws) := (hwt.add hmid).mono (by
      have : (2 : Nat) ^ (309 + 1) ≤ 2 ^ 310 := p2 (by decide)
      rw [Nat.pow_succ] at this
      omega)
    refine ⟨⟨E, e0, e1, hprod, fun p hp => (hsh p hp).lt e0 e1 (Nat.le_refl _) (by decide) (by decide), hoft⟩, E * E * H, Nat.mul_pos (Nat.mul_pos e0 e0) h0, ?_, ((hoft.mul hoft).mul h2).mono ?_⟩
    · exact Nat.le_trans (pm (pm e1 e1) h1) (p2 (by rcases (show a = 0 ∨ a = 1 ∨ a = 2 by omega) with h | h | h <;> subst h <;> decide))
    · exact Nat.le_trans (pm (pm (Nat.le_refl _) (Nat.le_refl _)) (Nat.le_refl _)) (p2 (by rcases (show a = 0 ∨ a = 1 ∨ a = 2 by omega) with h | h | h <;> subst h <;> decide))
theorem ov_sum {D D' N N' d n d' n' : Nat} {p q : Rat} (h : Ov D N p) (k : Ov D' N' q) (h1 : D ≤ 2 ^ d) (h2 : N ≤ 2 ^ n) (h3 : D' ≤ 2 ^ d') (h4 : N' ≤ 2 ^ n') {m : Nat} (e1 : n + d' ≤ m) (e2 : n' + d ≤ m) : Ov (D * D') (2 ^ (m + 1)) (p + q) := by
  have a := h.scale (E := D')
  have b := k.scale (E := D)
  rw [Nat.mul_comm D' D] at b
  refine (a.add b).mono ?_
  have x := Nat.le_trans (pm h2 h3) (p2 e1)
  have y := Nat.le_trans (pm h4 h1) (p2 e2)
  rw [Nat.pow_succ]
  omega
theorem US_ov {w : Nat} {F : Tb} (G : Gs w F) (hb : ∀ r ∈ F, ∀ x ∈ r, x.natAbs ≤ 2 ^ 13) : ∀ ws : List Int, ws.length ≤ F.length → (∀ x ∈ ws, x.natAbs ≤ 2 ^ 40) → ∃ D : Nat, 0 < D ∧ D ≤ 2 ^ (774 * ws.length) ∧ Ov D (2 ^ (889 + 775 * ws.length)) (US F ws)
  | [], _, _ => ⟨1, by decide, by decide, Ov.zero.mono (Nat.zero_le _)⟩
  | x :: ws, hl, hx => by
    rw [List.length_cons] at hl
    obtain ⟨D, d0, d1, d2⟩ := US_ov G hb ws (by omega) (fun y hy => hx y (List.mem_cons_of_mem _ hy))
    obtain ⟨a, ha⟩ : ∃ a, F.length - 1 - ws.length = a := ⟨_, rfl⟩
    obtain ⟨_, D', e0, e1, e2⟩ := lev G hb (a := a) (by omega) (ws := ws) (by omega) (fun y hy => hx y (List.mem_cons_of_mem _ hy)) (wt := x) (hx x List.mem_cons_self)
    refine ⟨D * D', Nat.mul_pos d0 e0, ?_, ?_⟩
    · rw [List.length_cons]
      exact Nat.le_trans (pm d1 e1) (p2 (by omega))
    · show Ov (D * D') _ (sizeM F ((F.length : Int) - 1 - (ws.length : Int)) ws (US F ws) x)
      rw [show (F.length : Int) - 1 - (ws.length : Int) = (a : Int) by omega]
      have := ov_sum d2 e2 d1 (Nat.le_refl _) e1 (Nat.le_refl _) (m := 889 + 775 * ws.length + 774) (by omega) (by omega)
      exact this.mono (p2 (by rw [List.length_cons]; omega))
theorem lv_ok {w : Nat} {F : Tb} (G : Gs w F) (hb : ∀ r ∈ F, ∀ x ∈ r, x.natAbs ≤ 2 ^ 13) {a : Nat} (ha : a < F.length) {ws : List Int} (hw : ws.length = F.length - 1 - a) (hwb : ∀ x ∈ ws, x.natAbs ≤ 2 ^ 40) {wt : Int} (ht : wt.natAbs ≤ 2 ^ 40) : LvOk F (a : Int) ws wt := by
  have n4 := G.n4
  obtain ⟨⟨E, e0, e1, e2, e3, e4⟩, D, d0, d1, d2⟩ := lev G hb ha hw hwb ht
  obtain ⟨U, u0, u1, u2⟩ := US_ov G hb ws (by omega) hwb
  have hpl : (prodsM F (a : Int) ws).length ≤ 3 := by unfold prodsM; rw [List.length_map, enumI_len]; omega
  have hpt : ∀ k, Ov E (2 ^ 309) (tot ((prodsM F (a : Int) ws).take k)) := fun k => (tot_take_ov _ e2 k).mono (Nat.le_trans (Nat.mul_le_mul_right _ (Nat.le_trans hpl (show 3 ≤ 2 ^ 2 by decide))) (Nat.le_trans (pm (Nat.le_refl _) (Nat.le_refl _)) (p2 (by decide))))
  have hmid : Ov E (2 ^ 309) (midM F (a : Int) ws) := by
    have := hpt (prodsM F (a : Int) ws).length
    rw [List.take_length] at this
    exact this
  obtain ⟨H, h0, h1, h2⟩ := hgt_ovT G hb ha
  refine ⟨fun p hp => ⟨?_, e3 p hp⟩, fun x hx => (e2 x hx).lt e0 e1 (Nat.le_refl _) (by decide) (by decide), fun k => (hpt k).lt e0 e1 (Nat.le_refl _) (by decide) (by decide), sz_w ht, hmid.lt e0 e1 (Nat.le_refl _) (by decide) (by decide), e4.lt e0 e1 (Nat.le_refl _) (by decide) (by decide), (e4.mul e4).lt (Nat.mul_pos e0 e0) (pm e1 e1) (pm (Nat.le_refl _) (Nat.le_refl _)) (by decide) (by decide), ?_, d2.lt d0 d1 (Nat.le_refl _) (by decide) (by decide), u2.lt u0 u1 (Nat.le_refl _) (by omega) (by omega), ?_⟩
  · obtain ⟨k, hk⟩ := List.mem_iff_getElem?.mp hp
    exact sz_w (hwb _ (List.mem_of_getElem? (enumI_get hk).2))
  · rw [Int.toNat_natCast, hgt_ee G ha]
    have hdd : 2 * dT a ≤ 774 ∧ 2 * (13 + dT a + a) + 3 ≤ 809 := by rcases (show a = 0 ∨ a = 1 ∨ a = 2 ∨ a = 3 by omega) with h | h | h | h <;> subst h <;> decide
    exact h2.lt h0 h1 (Nat.le_refl _) (by omega) (by omega)
  · have := ov_sum u2 d2 u1 (Nat.le_refl _) d1 (Nat.le_refl _) (m := 889 + 775 * ws.length + 774) (by omega) (by omega)
    exact this.lt (Nat.mul_pos u0 d0) (pm u1 d1) (Nat.le_refl _) (by omega) (by omega)
/-! ### how far the search goes -/
/-- heights of trim rows are at least one eighth -/
theorem hgt_eighth {w : Nat} {F : Tb} (G : Gs w F) (h : trimM F = true) {a : Nat} (ha : a < F.length) : 1 ≤ 8 * ee (Gr F) a a a := by
  have h1 := trim_chain G h a ha
  have h2 : 1 ≤ ee (Gr F) 0 0 0 := by
    have := ee_pos G G.n0
    rw [ee_00, Nq_int] at this ⊢
    exact wh_one ⟨_, rfl⟩ this
  have h3 := Bp_mono (B := 2) (by decide) (show a ≤ 3 by have := G.n4; omega)
  have e : Bp 2 3 = 8 := by show (1 : Rat) * 2 * 2 * 2 = 8; grind
  have h4 := ee_pos G ha
  have h5 := le_mul h3 (show 0 ≤ ee (Gr F) a a a by grind)
  rw [e] at h5
  grind
/-- a weight that is looked at is near to where the level's middle is -/
theorem near_mid {w : Nat} {F : Tb} (G : Gs w F) (h : trimM F = true) {a : Nat} (ha : a < F.length) {ws : List Int} (hw : ws.length ≤ F.length) {wt least : Int} (hl : ¬ (least : Rat) < sizeM F (a : Int) ws (US F ws) wt) : ((wt : Rat) + midM F (a : Int) ws) * ((wt : Rat) + midM F (a : Int) ws) ≤ 8 * (least : Rat) := by
  have h1 := hgt_eighth G h ha
  have h2 := US_nn G ws hw
  unfold sizeM at hl
  rw [Int.toNat_natCast, hgt_ee G ha] at hl
  generalize (wt : Rat) + midM F (a : Int) ws = t at *
  have h3 := le_mul h1 (mul_self_nn t)
  grind
end Mi

/-! The search: how far it goes. -/
set_option maxHeartbeats 4000000
namespace Mi
/-- trim rows with small numbers -/
def TrF (F : Tb) : Prop := ∃ w, Gs w F ∧ trimM F = true ∧ ∀ r ∈ F, ∀ x ∈ r, x.natAbs ≤ 2 ^ 13
theorem TrimOk.trf {w : Nat} {rows : Tb} (T : TrimOk w rows) : TrF (trimF rows) := ⟨w, T.gs, T.tr, fun r hr => bits13 (T.nq r hr)⟩
theorem trim_hf {w : Nat} {F : Tb} (G : Gs w F) (h : trimM F = true) {a j : Nat} (ha : a < j) (hj : j < F.length) : Hf (sh (F.getD j []) ((ups F).getD a [])) := by
  have hs := shs_get G hj
  have hm := enumI_at hs
  have hb : trimB (hgtM F) (((j : Nat) : Int), ((ups F).take j).map fun u => sh (F.getD j []) u) = true := by
    unfold trimM at h
    exact List.all_eq_true.mp h _ (List.mem_of_getElem? hm)
  unfold trimB at hb
  rw [Bool.and_eq_true] at hb
  have h1 := show (!((((ups F).take j).map fun u => sh (F.getD j []) u).any bigM)) = true from hb.1
  have h3 : (((ups F).take j).map fun u => sh (F.getD j []) u).any bigM = false := by simpa using h1
  have hx : (((ups F).take j).map fun u => sh (F.getD j []) u)[a]? = some (sh (F.getD j []) ((ups F).getD a [])) := by
    rw [List.getElem?_map, List.getElem?_take, if_pos ha, ups_at (by omega), ups_getD (by omega)]
    rfl
  have := List.any_eq_false.mp h3 _ (List.mem_of_getElem? hx)
  exact big_hf (by simpa using this)
theorem tot_abs {B : Rat} : ∀ (xs : List Rat), (∀ x ∈ xs, -B ≤ x ∧ x ≤ B) → -((xs.length : Rat) * B) ≤ tot xs ∧ tot xs ≤ (xs.length : Rat) * B
  | [], _ => by
    have : ((0 : Nat) : Rat) = 0 := rfl
    constructor
    · show -(((0 : Nat) : Rat) * B) ≤ (0 : Rat)
      grind
    · show (0 : Rat) ≤ ((0 : Nat) : Rat) * B
      grind
  | x :: xs, h => by
    have ih := tot_abs xs fun y hy => h y (List.mem_cons_of_mem _ hy)
    have hx := h x List.mem_cons_self
    rw [tot_cons, List.length_cons, add_rat]
    have : ((1 : Nat) : Rat) = 1 := rfl
    constructor <;> grind
theorem int_abs {z : Int} {W : Nat} (h : z.natAbs ≤ W) : -(W : Rat) ≤ (z : Rat) ∧ (z : Rat) ≤ (W : Rat) := by
  have h1 : ((-(W : Int) : Int) : Rat) ≤ (z : Rat) := by exact_mod_cast (show -(W : Int) ≤ z by omega)
  have h2 : (z : Rat) ≤ ((W : Int) : Rat) := by exact_mod_cast (show z ≤ (W : Int) by omega)
  rw [Rat.intCast_neg] at h1
  exact ⟨h1, h2⟩
theorem abs_int {z : Int} {W : Nat} (h1 : -(W : Rat) ≤ (z : Rat)) (h2 : (z : Rat) ≤ (W : Rat)) : z.natAbs ≤ W := by
  have e1 : ((-(W : Int) : Int) : Rat) ≤ (z : Rat) := by rw [Rat.intCast_neg]; exact h1
  have e2 : (z : Rat) ≤ ((W : Int) : Rat) := h2
  have f1 : -(W : Int) ≤ z := by exact_mod_cast e1
  have f2 : z ≤ (W : Int) := by exact_mod_cast e2
  omega
/-- the middle of a level, by the weights behind it -/
theorem mid_bd {w : Nat} {F : Tb} (G : Gs w F) (h : trimM F = true) {a : Nat} (ha : a < F.length) {ws : List Int} (hw : ws.length = F.length - 1 - a) {W : Nat} (hb : ∀ x ∈ ws, x.natAbs ≤ W) : -(2 * (W : Rat)) ≤ midM F (a : Int) ws ∧ midM F (a : Int) ws ≤ 2 * (W : Rat) := by
  have n4 := G.n4
  have hW : (0 : Rat) ≤ (W : Rat) := nat_le (a := 0) (Nat.zero_le _)
  have h1 := tot_abs (B := (W : Rat) / 2) (prodsM F (a : Int) ws) (fun x hx => by
    obtain ⟨p, hp, rfl⟩ := List.mem_map.mp hx
    obtain ⟨k, hk⟩ := List.mem_iff_getElem?.mp hp
    obtain ⟨h3, h4⟩ := enumI_get hk
    have hkl : k < ws.length := (List.getElem?_eq_some_iff.mp h4).1
    rw [h3, show ((a : Int) + 1 + (k : Int)).toNat = a + 1 + k by omega, Int.toNat_natCast, shs_get2 G (by omega) (by omega)]
    have hf := trim_hf G h (show a < a + 1 + k by omega) (by omega)
    obtain ⟨w1, w2⟩ := int_abs (hb _ (List.mem_of_getElem? h4))
    obtain ⟨f1, f2⟩ := hf
    generalize sh (F.getD (a + 1 + k) []) ((ups F).getD a []) = s at *
    generalize ((p.2 : Int) : Rat) = z at *
    have q1 := Rat.mul_nonneg (show 0 ≤ (W : Rat) - z by grind) (show 0 ≤ 2 * s + 1 by grind)
    have q2 := Rat.mul_nonneg (show 0 ≤ (W : Rat) + z by grind) (show 0 ≤ 1 - 2 * s by grind)
    have q3 := Rat.mul_nonneg (show 0 ≤ (W : Rat) - z by grind) (show 0 ≤ 1 - 2 * s by grind)
    have q4 := Rat.mul_nonneg (show 0 ≤ (W : Rat) + z by grind) (show 0 ≤ 2 * s + 1 by grind)
    constructor <;> grind)
  have hl : (prodsM F (a : Int) ws).length ≤ 3 := by unfold prodsM; rw [List.length_map, enumI_len]; omega
  have h2 : ((prodsM F (a : Int) ws).length : Rat) * ((W : Rat) / 2) ≤ ((3 : Nat) : Rat) * ((W : Rat) / 2) := le_mul (nat_le hl) (by grind)
  have e3 : ((3 : Nat) : Rat) = 3 := rfl
  have e : midM F (a : Int) ws = tot (prodsM F (a : Int) ws) := rfl
  rw [e]
  constructor <;> grind
/-- where a level begins -/
theorem first_ok (m : Rat) : 0 ≤ ((1 : Int) : Rat) * (2 * (((-(near1 m) : Int) : Rat) + m)) + 1 ∧ 0 ≤ ((-1 : Int) : Rat) * (2 * (((-(near1 m) - 1 : Int) : Rat) + m)) + 1 := by
  obtain ⟨h1, h2⟩ := near1_hf m
  have e1 : ((1 : Int) : Rat) = 1 := rfl
  have e2 : ((-1 : Int) : Rat) = -1 := rfl
  rw [e1, e2, Rat.intCast_sub, Rat.intCast_neg, e1]
  constructor <;> grind
/-- how many weights are looked at, at most -/
def KM (least : Int) : Nat := 8 * least.toNat + 2
theorem t_big {t L : Rat} {k : Nat} (hL : 0 ≤ L) (hk : 8 * L + 2 ≤ (k : Rat)) (ht : (k : Rat) - 1 / 2 ≤ t) : ¬ t * t ≤ 8 * L := by
  intro h
  have h1 := mul_le2 ht ht (by grind) (by grind)
  have h2 := Rat.mul_nonneg (show 0 ≤ (k : Rat) - 2 by grind) (show 0 ≤ (k : Rat) by grind)
  grind
theorem step_stop {w : Nat} {F : Tb} (G : Gs w F) (h : trimM F = true) {a : Nat} (ha : a < F.length) {ws : List Int} (hw : ws.length ≤ F.length) {first by1 least l : Int} (hby : by1 = 1 ∨ by1 = -1) (hm : 0 ≤ (by1 : Rat) * (2 * ((first : Rat) + midM F (a : Int) ws)) + 1) (hl : l ≤ least) (h0 : 0 ≤ l) {k : Nat}
    (hn : ¬ (l : Rat) < sizeM F (a : Int) ws (US F ws) (first + (k : Int) * by1)) : k < KM least := by
  have h1 := near_mid G h ha hw hn
  by_cases hk : k < KM least
  · exact hk
  · exfalso
    unfold KM at hk
    have hl0 : ((0 : Int) : Rat) ≤ (l : Rat) := by exact_mod_cast h0
    have hz : ((0 : Int) : Rat) = 0 := rfl
    have hk2 : ((8 * l + 2 : Int) : Rat) ≤ ((k : Int) : Rat) := by exact_mod_cast (show 8 * l + 2 ≤ (k : Int) by omega)
    rw [Rat.intCast_add, Rat.intCast_mul] at hk2
    have e8 : ((8 : Int) : Rat) = 8 := rfl
    have e2 : ((2 : Int) : Rat) = 2 := rfl
    rw [e8, e2, nat_rat] at hk2
    rw [Rat.intCast_add, Rat.intCast_mul, nat_rat] at h1
    generalize midM F (a : Int) ws = m at *
    generalize (first : Rat) = f at *
    rcases hby with z | z <;> rw [z] at h1 hm
    · have e : ((1 : Int) : Rat) = 1 := rfl
      rw [e] at h1 hm
      refine t_big (t := f + (k : Rat) * 1 + m) (L := (l : Rat)) (k := k) (by grind) hk2 (by grind) h1
    · have e : ((-1 : Int) : Rat) = -1 := rfl
      rw [e] at h1 hm
      refine t_big (t := -(f + (k : Rat) * -1 + m)) (L := (l : Rat)) (k := k) (by grind) hk2 (by grind) (by grind)
/-- a weight that is looked at is bounded -/
theorem here_bd {w : Nat} {F : Tb} (G : Gs w F) (h : trimM F = true) {a : Nat} (ha : a < F.length) {ws : List Int} (hw : ws.length = F.length - 1 - a) {W : Nat} (hb : ∀ x ∈ ws, x.natAbs ≤ W) {wt l : Int} (hl : l ≤ 2 ^ 25) (h0 : 0 ≤ l) (hn : ¬ (l : Rat) < sizeM F (a : Int) ws (US F ws) wt) : wt.natAbs ≤ 2 ^ 29 + 2 * W := by
  have h1 := near_mid G h ha (by omega) hn
  obtain ⟨m1, m2⟩ := mid_bd G h ha hw hb
  have hl2 : (l : Rat) ≤ ((2 ^ 25 : Int) : Rat) := by exact_mod_cast hl
  have e : ((2 ^ 25 : Int) : Rat) = 33554432 := rfl
  rw [e] at hl2
  have h2 : ((2 ^ 29 + 2 * W : Nat) : Rat) = 536870912 + 2 * (W : Rat) := by
    rw [add_rat, mul_rat]
    rfl
  generalize midM F (a : Int) ws = m at *
  have hq := mul_self_nn ((wt : Rat) + m)
  refine abs_int ?_ ?_ <;> rw [h2]
  · by_cases q : -536870912 ≤ (wt : Rat) + m
    · grind
    · have := Rat.mul_pos (show 0 < -536870912 - ((wt : Rat) + m) by grind) (show 0 < -((wt : Rat) + m) by grind)
      grind
  · by_cases q : (wt : Rat) + m ≤ 536870912
    · grind
    · have := Rat.mul_pos (show 0 < ((wt : Rat) + m) - 536870912 by grind) (show 0 < ((wt : Rat) + m) by grind)
      grind
theorem first_bd {w : Nat} {F : Tb} (G : Gs w F) (h : trimM F = true) {a : Nat} (ha : a < F.length) {ws : List Int} (hw : ws.length = F.length - 1 - a) {W : Nat} (hb : ∀ x ∈ ws, x.natAbs ≤ W) : (near1 (midM F (a : Int) ws)).natAbs ≤ 2 * W + 1 := by
  obtain ⟨m1, m2⟩ := mid_bd G h ha hw hb
  obtain ⟨n1, n2⟩ := near1_hf (midM F (a : Int) ws)
  generalize midM F (a : Int) ws = m at *
  have h2 : ((2 * W + 1 : Nat) : Rat) = 2 * (W : Rat) + 1 := by rw [add_rat, mul_rat]; rfl
  refine abs_int ?_ ?_ <;> rw [h2] <;> grind
theorem made_bits2 {w : Nat} {rows : Tb} (W : Wd w rows) (h0 : 0 < rows.length) (h4 : rows.length ≤ 4) {ws : List Int} (hw : ws.length = rows.length) {A B : Nat} (hb : ∀ x ∈ ws, x.natAbs ≤ A) (hr : ∀ r ∈ rows, ∀ x ∈ r, x.natAbs ≤ B) : ∀ x ∈ madeM rows ws, x.natAbs ≤ 4 * (A * B) := fun x hx => by
  obtain ⟨k, hk, rfl⟩ := List.getElem_of_mem hx
  have hml : (madeM rows ws).length = w := madeM_len W h0
  have e := madeM_get (ws := ws) W h0 k (by omega)
  rw [List.getD_eq_getElem?_getD, List.getElem?_eq_getElem hk] at e
  have e : (madeM rows ws)[k] = _ := e
  rw [e]
  have := sum_bd (A * B) ((ws.zip rows).map fun p => p.1 * p.2.getD k 0) (fun y hy => by
    obtain ⟨p, hp, rfl⟩ := List.mem_map.mp hy
    have hm := List.of_mem_zip hp
    rw [Int.natAbs_mul]
    refine Nat.mul_le_mul (hb _ hm.1) ?_
    have hl : k < p.2.length := by rw [W _ hm.2]; omega
    rw [List.getD_eq_getElem?_getD, List.getElem?_eq_getElem hl]
    exact hr _ hm.2 _ (List.getElem_mem hl))
  rw [List.length_map, List.length_zip] at this
  exact Nat.le_trans this (Nat.mul_le_mul_right _ (by omega))
theorem dotI_nn (x : List Int) : 0 ≤ dotI x x := by
  have := Nq_nn x
  rw [Nq_int] at this
  have : ((0 : Int) : Rat) ≤ ((dotI x x : Int) : Rat) := this
  exact_mod_cast this
/-- a row is met -/
def meetM (d : Tb × List Int × Int) (ws : List Int) : Tb × List Int × Int := if 0 < dotI (madeM d.1 ws) (madeM d.1 ws) ∧ dotI (madeM d.1 ws) (madeM d.1 ws) < d.2.2 then (d.1, ws, dotI (madeM d.1 ws) (madeM d.1 ws)) else d
/-- what a part of the search keeps, and what it covers -/
structure Po (d : Tb × List Int × Int) (S : List Int → Prop) (d' : Tb × List Int × Int) : Prop where
  f : d'.1 = d.1
  si : SI d.1 d'.2.1 d'.2.2
  le : d'.2.2 ≤ d.2.2
  cov : Cov d.1 d'.2.2 S
theorem zero_made {w : Nat} {F : Tb} (G : Gs w F) {ws : List Int} (h : ¬ ∃ z ∈ ws, z ≠ 0) : dotI (madeM F ws) (madeM F ws) = 0 := by
  have : Nq (madeM F ws) = 0 := by
    unfold Nq
    rw [madeM_dq G.wd G.n0]
    have key : ∀ l : List (Int × List Int), (∀ p ∈ l, p.1 = 0) → tot (l.map fun p => (p.1 : Rat) * dq (fq p.2) (fq (madeM F ws))) = 0 := by
      intro l
      induction l with
      | nil => intro _; rfl
      | cons p l ih =>
        intro hp
        rw [List.map_cons, tot_cons, ih fun q hq => hp q (List.mem_cons_of_mem _ hq), hp p List.mem_cons_self]
        have : ((0 : Int) : Rat) = 0 := rfl
        grind
    refine key _ fun p hp => ?_
    by_cases e : p.1 = 0
    · exact e
    · exact absurd ⟨p.1, (List.of_mem_zip hp).1, e⟩ h
  rw [Nq_int] at this
  exact rat_int0 this
theorem meet_ok {d : Tb × List Int × Int} {w : Nat} (G : Gs w d.1) (hs : SI d.1 d.2.1 d.2.2) {ws : List Int} (hw : ws.length = d.1.length) (hwb : ∀ x ∈ ws, x.natAbs ≤ 2 ^ 40) : Po d (fun x => x = ws) (meetM d ws) := by
  unfold meetM
  by_cases h : 0 < dotI (madeM d.1 ws) (madeM d.1 ws) ∧ dotI (madeM d.1 ws) (madeM d.1 ws) < d.2.2
  · rw [if_pos h]
    refine ⟨rfl, ⟨hw, ?_, rfl, hwb⟩, Int.le_of_lt h.2, fun x _ hx _ => by rw [hx]; exact Int.le_refl _⟩
    by_cases e : ∃ z ∈ ws, z ≠ 0
    · exact e
    · have := zero_made G e
      omega
  · rw [if_neg h]
    refine ⟨rfl, hs, Int.le_refl _, fun x _ hx h0 => ?_⟩
    rw [hx] at h0 ⊢
    by_cases e : d.2.2 ≤ dotI (madeM d.1 ws) (madeM d.1 ws)
    · exact e
    · exact absurd ⟨h0, by omega⟩ h
end Mi
namespace Mi
/-! ### the search as a function -/
abbrev Sd3 := Tb × List Int × Int
def loopF (wk : Sd3 → List Int → Sd3) (m : Nat) (ws : List Int) (by1 : Int) : Nat → Int → Sd3 → Sd3
  | 0, _, d => d
  | f + 1, here, d => if decide ((d.2.2 : Rat) < sizeM d.1 (m : Int) ws (US d.1 ws) here) = true then d else loopF wk m ws by1 f (here + by1) (wk d (here :: ws))
def walkF : Nat → Sd3 → List Int → Sd3
  | 0, d, ws => meetM d ws
  | m + 1, d, ws =>
    let fi := -(near1 (midM d.1 (m : Int) ws))
    let d1 := loopF (walkF m) m ws 1 (KM d.2.2) fi d
    loopF (walkF m) m ws (-1) (KM d1.2.2) (fi - 1) d1
theorem loopF_end {wk : Sd3 → List Int → Sd3} {m : Nat} {ws : List Int} {by1 here : Int} {d : Sd3} (h : (d.2.2 : Rat) < sizeM d.1 (m : Int) ws (US d.1 ws) here) : ∀ f, loopF wk m ws by1 f here d = d
  | 0 => rfl
  | f + 1 => by
    show (if decide ((d.2.2 : Rat) < sizeM d.1 (m : Int) ws (US d.1 ws) here) = true then d else _) = d
    rw [if_pos (decide_eq_true h)]
theorem loopF_more {wk : Sd3 → List Int → Sd3} {m : Nat} {ws : List Int} {by1 here : Int} {d : Sd3} (h : ¬ (d.2.2 : Rat) < sizeM d.1 (m : Int) ws (US d.1 ws) here) (f : Nat) : loopF wk m ws by1 (f + 1) here d = loopF wk m ws by1 f (here + by1) (wk d (here :: ws)) := by
  show (if decide ((d.2.2 : Rat) < sizeM d.1 (m : Int) ws (US d.1 ws) here) = true then d else loopF wk m ws by1 f (here + by1) (wk d (here :: ws))) = _
  rw [if_neg (by rw [decide_eq_false h]; decide)]
def initD (F : Tb) : Sd3 := (F, (rgI 0 F.length).map (fun k => if decide (k = 0) = true then 1 else 0), dotI (F.getD 0 []) (F.getD 0 []))
theorem initD_si {w : Nat} {F : Tb} (G : Gs w F) : SI F (initD F).2.1 (initD F).2.2 := by
  have e : (initD F).2.1 = unitW F.length 0 := unit_eq F.length 0
  rw [e]
  have hl : (unitW F.length 0).length = F.length := by unfold unitW; rw [List.length_map, List.length_range]
  refine ⟨hl, ⟨1, ?_, by decide⟩, by rw [unit_made G.wd G.n0]; rfl, fun x hx => ?_⟩
  · unfold unitW
    exact List.mem_map.mpr ⟨0, List.mem_range.mpr G.n0, rfl⟩
  · unfold unitW at hx
    obtain ⟨k, _, rfl⟩ := List.mem_map.mp hx
    split <;> decide
/-- the weights of a shortest row -/
def shortM (rows : Tb) : List Int := madeM (trimW rows) (walkF (trimF rows).length (initD (trimF rows)) []).2.1
end Mi
namespace Mi
/-! ### what shortest tells -/
theorem made_zero {w : Nat} {rows : Tb} (W : Wd w rows) (h0 : 0 < rows.length) : madeM rows (List.replicate rows.length 0) = List.replicate w 0 := by
  have h := made_less W h0 (a := List.replicate rows.length 0) (b := List.replicate rows.length 0) (List.length_replicate ..) (List.length_replicate ..) 1
  rw [less_self, less_self, List.length_replicate, madeM_len W h0] at h
  exact h
theorem madeF_made {w : Nat} {rows : Tb} (W : Wd w rows) (h0 : 0 < rows.length) : ∀ (l : List (Int × List Int)) (f : List Int), (∀ p ∈ l, p.2.length = rows.length) → f.length = rows.length → madeM rows (madeF l f) = madeF (l.map fun p => (p.1, madeM rows p.2)) (madeM rows f)
  | [], _, _, _ => rfl
  | p :: l, f, hl, hf => by
    have hp := hl p List.mem_cons_self
    have ih := madeF_made W h0 l ((f.zip p.2).map fun q => q.1 + p.1 * q.2) (fun q hq => hl q (List.mem_cons_of_mem _ hq)) (by rw [addw_len _ (hf.trans hp.symm), hf])
    show madeM rows (madeF l _) = madeF _ (((madeM rows f).zip (madeM rows p.2)).map fun q => q.1 + p.1 * q.2)
    rw [ih]
    congr 1
    rw [add_less, add_less, made_less W h0 hf hp]
theorem made_made {w : Nat} {rows W2 : Tb} (W : Wd w rows) (h0 : 0 < rows.length) (h2 : 0 < W2.length) (hW : Wd rows.length W2) (b : List Int) : madeM rows (madeM W2 b) = madeM (W2.map (madeM rows)) b := by
  have e1 : madeM W2 b = madeF (b.zip W2) (List.replicate rows.length 0) := by
    show madeF (b.zip W2) (List.replicate (W2.getD 0 []).length 0) = _
    rw [hW.at h2]
  have hl : (W2.map (madeM rows)).length = W2.length := List.length_map ..
  have e2 : madeM (W2.map (madeM rows)) b = madeF (b.zip (W2.map (madeM rows))) (List.replicate w 0) := by
    show madeF (b.zip (W2.map (madeM rows))) (List.replicate ((W2.map (madeM rows)).getD 0 []).length 0) = _
    have : ((W2.map (madeM rows)).getD 0 []).length = w := by
      have hm := getD_mem (r := W2.map (madeM rows)) (i := 0) (by omega)
      obtain ⟨q, _, hq⟩ := List.mem_map.mp hm
      rw [← hq]
      exact madeM_len W h0
    rw [this]
  rw [e1, madeF_made W h0 _ _ (zip_wd hW) (List.length_replicate ..), made_zero W h0, e2, List.zip_map_right]
  rfl
structure ShOk (rows : Tb) (best : List Int) (least : Int) : Prop where
  si : SI (trimF rows) best least
  cov : Cov (trimF rows) least (fun _ => True)
theorem ShOk.row {w : Nat} {rows : Tb} (T : TrimOk w rows) {best : List Int} {least : Int} (h : ShOk rows best least) : madeM rows (madeM (trimW rows) best) = madeM (trimF rows) best := by
  obtain ⟨h1, h2⟩ := T.wlen
  rw [made_made T.gs0.wd T.gs0.n0 (by rw [h1]; exact T.gs0.n0) h2, T.made]
theorem ShOk.pos {w : Nat} {rows : Tb} (T : TrimOk w rows) {best : List Int} {least : Int} (h : ShOk rows best least) : 0 < least := by
  have := made_nz T.gs h.si.len h.si.nz
  rw [Nq_int, ← h.si.eq] at this
  have : ((0 : Int) : Rat) < (least : Rat) := this
  exact_mod_cast this
theorem ShOk.min {w : Nat} {rows : Tb} (T : TrimOk w rows) {best : List Int} {least : Int} (h : ShOk rows best least) {v : List Int} (hv : InL rows v) (h0 : 0 < dotI v v) : least ≤ dotI v v := by
  obtain ⟨x, hx, hxv⟩ := T.inl hv
  have := h.cov x hx trivial
  rw [hxv] at this
  exact this h0
theorem ShOk.nz {w : Nat} {rows : Tb} (T : TrimOk w rows) {best : List Int} {least : Int} (h : ShOk rows best least) : (madeM (trimW rows) best).length = rows.length ∧ ∃ z ∈ madeM (trimW rows) best, z ≠ 0 := by
  obtain ⟨h1, h2⟩ := T.wlen
  refine ⟨madeM_len h2 (by rw [h1]; exact T.gs0.n0), ?_⟩
  by_cases e : ∃ z ∈ madeM (trimW rows) best, z ≠ 0
  · exact e
  · have z := zero_made T.gs0 e
    rw [h.row T] at z
    have := h.pos T
    rw [h.si.eq, z] at this
    omega
end Mi

/-! All weights from -2 to 2. -/
set_option maxHeartbeats 4000000
namespace Mi
def ev5 (part : List Int) : Tb := ([0, 1, -1, 2, -2] : List Int).map fun z => part ++ [z]
def evM : Nat → Tb
  | 0 => [[]]
  | k + 1 => (evM k).foldl (fun l part => l ++ ev5 part) []
theorem ev_fold (xs : Tb) : ∀ acc : Tb, xs.foldl (fun l part => l ++ ev5 part) acc = acc ++ xs.flatMap ev5 := by
  induction xs with
  | nil => intro acc; simp
  | cons x xs ih => intro acc; rw [List.foldl_cons, ih, List.flatMap_cons, List.append_assoc]
theorem ev5_len (p : List Int) : (ev5 p).length = 5 := by unfold ev5; rw [List.length_map]; rfl
theorem ev_part_len (xs : Tb) : (xs.foldl (fun l part => l ++ ev5 part) []).length = 5 * xs.length := by
  rw [ev_fold, List.nil_append]
  induction xs with
  | nil => rfl
  | cons x xs ih => rw [List.flatMap_cons, List.length_append, ih, ev5_len, List.length_cons]; omega
theorem evM_len : ∀ k, (evM k).length = 5 ^ k
  | 0 => rfl
  | k + 1 => by
    show ((evM k).foldl (fun l part => l ++ ev5 part) []).length = _
    rw [ev_part_len, evM_len k, Nat.pow_succ]
    omega
theorem evM_mem : ∀ k, ∀ p ∈ evM k, p.length = k ∧ ∀ x ∈ p, x.natAbs ≤ 2
  | 0, p, hp => by
    rw [List.mem_singleton.mp hp]
    exact ⟨rfl, fun x hx => by cases hx⟩
  | k + 1, p, hp => by
    have hp : p ∈ (evM k).foldl (fun l part => l ++ ev5 part) [] := hp
    rw [ev_fold, List.nil_append] at hp
    obtain ⟨q, hq, hpq⟩ := List.mem_flatMap.mp hp
    obtain ⟨z, hz, rfl⟩ := List.mem_map.mp hpq
    obtain ⟨h1, h2⟩ := evM_mem k q hq
    refine ⟨by rw [List.length_append, h1]; rfl, fun x hx => ?_⟩
    rcases List.mem_append.mp hx with e | e
    · exact h2 x e
    · rw [List.mem_singleton.mp e]
      simp at hz
      rcases hz with rfl | rfl | rfl | rfl | rfl <;> decide
theorem evM_tail : ∀ k, ∃ z r, evM k = z :: r ∧ ∀ p ∈ r, ∃ x ∈ p, x ≠ 0
  | 0 => ⟨[], [], rfl, fun p hp => by cases hp⟩
  | k + 1 => by
    obtain ⟨z, r, h1, h2⟩ := evM_tail k
    have e : evM (k + 1) = (z ++ [0]) :: ((([1, -1, 2, -2] : List Int).map fun y => z ++ [y]) ++ r.flatMap ev5) := by
      show (evM k).foldl (fun l part => l ++ ev5 part) [] = _
      rw [ev_fold, List.nil_append, h1, List.flatMap_cons]
      rfl
    refine ⟨_, _, e, fun p hp => ?_⟩
    rcases List.mem_append.mp hp with q | q
    · obtain ⟨y, hy, rfl⟩ := List.mem_map.mp q
      refine ⟨y, List.mem_append_right _ (List.mem_singleton.mpr rfl), ?_⟩
      simp at hy
      rcases hy with rfl | rfl | rfl | rfl <;> decide
    · obtain ⟨q2, hq2, hpq⟩ := List.mem_flatMap.mp q
      obtain ⟨y, hy, rfl⟩ := List.mem_map.mp hpq
      obtain ⟨x, hx, hn⟩ := h2 q2 hq2
      exact ⟨x, List.mem_append_left _ hx, hn⟩
theorem evM_drop {k : Nat} {p : List Int} (h : p ∈ (evM k).drop 1) : p.length = k ∧ (∀ x ∈ p, x.natAbs ≤ 2) ∧ ∃ x ∈ p, x ≠ 0 := by
  obtain ⟨z, r, h1, h2⟩ := evM_tail k
  have hm := evM_mem k p (List.mem_of_mem_drop h)
  rw [h1] at h
  exact ⟨hm.1, hm.2, h2 p h⟩
end Mi
namespace Mi
theorem row_pos {w : Nat} {F : Tb} (G : Gs w F) {r : List Int} (h : r ∈ F) : 0 < Nq r := by
  obtain ⟨j, hj, rfl⟩ := List.getElem_of_mem h
  have h1 := ee_pos G hj
  have h2 := ee_le G hj
  rw [getD_of (List.getElem?_eq_getElem hj)] at h2
  grind
end Mi
namespace Mi
theorem loop_po {w : Nat} {F : Tb} (G : Gs w F) (htr : trimM F = true) {m : Nat} (hm : m < F.length) {ws : List Int} (hwl : ws.length = F.length - 1 - m) (hwb : ∀ x ∈ ws, x.natAbs ≤ 2 ^ (30 + 2 * ws.length)) {wk : Sd3 → List Int → Sd3}
    (ih : ∀ d x, d.1 = F → SI F d.2.1 d.2.2 → d.2.2 ≤ 2 ^ 25 → (∀ z ∈ x :: ws, z.natAbs ≤ 2 ^ (30 + 2 * (x :: ws).length)) → Po d (fun y => y.drop m = x :: ws) (wk d (x :: ws)))
    {d : Sd3} (hF : d.1 = F) (hle : d.2.2 ≤ 2 ^ 25) {first by1 : Int} (hby : by1 = 1 ∨ by1 = -1) (hmo : 0 ≤ (by1 : Rat) * (2 * ((first : Rat) + midM F (m : Int) ws)) + 1) :
    ∀ (f k : Nat) (d' : Sd3), KM d.2.2 ≤ k + f → Po d (fun x => x.drop (m + 1) = ws ∧ ∃ j : Nat, j < k ∧ x.getD m 0 = first + (j : Int) * by1) d' → Po d (fun x => x.drop (m + 1) = ws ∧ ∃ j : Nat, x.getD m 0 = first + (j : Int) * by1) (loopF wk m ws by1 f (first + (k : Int) * by1) d') := by
  have stop : ∀ (k : Nat) (d' : Sd3), Po d (fun x => x.drop (m + 1) = ws ∧ ∃ j : Nat, j < k ∧ x.getD m 0 = first + (j : Int) * by1) d' → (d'.2.2 : Rat) < sizeM F (m : Int) ws (US F ws) (first + (k : Int) * by1) → Po d (fun x => x.drop (m + 1) = ws ∧ ∃ j : Nat, x.getD m 0 = first + (j : Int) * by1) d' := fun k d' hpo hlt => by
    refine ⟨hpo.f, hpo.si, hpo.le, ?_⟩
    have c2 := cov_far G hm hwl hby hmo k hlt
    have c1 := hpo.cov
    rw [hF] at c1 ⊢
    refine Cov.or c1 c2 fun x hx ⟨h1, j, h3⟩ => ?_
    by_cases e : j < k
    · exact .inl ⟨h1, j, e, h3⟩
    · exact .inr ⟨h1, j, by omega, h3⟩
  intro f
  induction f with
  | zero =>
    intro k d' hk hpo
    have h2 : 0 ≤ d'.2.2 := by rw [hpo.si.eq]; exact dotI_nn _
    by_cases hlt : (d'.2.2 : Rat) < sizeM F (m : Int) ws (US F ws) (first + (k : Int) * by1)
    · exact stop k d' hpo hlt
    · have := step_stop G htr hm (by omega) hby hmo hpo.le h2 hlt
      omega
  | succ f ihf =>
    intro k d' hk hpo
    have h2 : 0 ≤ d'.2.2 := by rw [hpo.si.eq]; exact dotI_nn _
    have hfd : d'.1 = F := hpo.f.trans hF
    by_cases hlt : (d'.2.2 : Rat) < sizeM F (m : Int) ws (US F ws) (first + (k : Int) * by1)
    · rw [loopF_end (by rw [hfd]; exact hlt)]
      exact stop k d' hpo hlt
    · rw [loopF_more (by rw [hfd]; exact hlt)]
      have hbd := here_bd G htr hm hwl hwb (Int.le_trans hpo.le hle) h2 hlt
      have hsi := hpo.si
      rw [hF] at hsi
      have hd2 := ih d' (first + (k : Int) * by1) hfd hsi (Int.le_trans hpo.le hle) (fun x hx => by
        rw [List.length_cons]
        rcases List.mem_cons.mp hx with z | z
        · rw [z]
          have e1 : 2 ^ (30 + 2 * (ws.length + 1)) = 4 * 2 ^ (30 + 2 * ws.length) := by rw [show 30 + 2 * (ws.length + 1) = (30 + 2 * ws.length) + 2 by omega, Nat.pow_add]; omega
          have e2 : 2 ^ 29 ≤ 2 ^ (30 + 2 * ws.length) := p2 (by omega)
          rw [e1]
          generalize 2 ^ (30 + 2 * ws.length) = X at *
          omega
        · exact Nat.le_trans (hwb x z) (p2 (by omega)))
      rw [show first + (k : Int) * by1 + by1 = first + ((k + 1 : Nat) : Int) * by1 by rcases hby with z | z <;> rw [z] <;> omega]
      refine ihf (k + 1) _ (by omega) ⟨hd2.f.trans hpo.f, by rw [hF, ← hfd]; exact hd2.si, Int.le_trans hd2.le hpo.le, ?_⟩
      have c1 := hpo.cov.le hd2.le
      have c2 := hd2.cov
      rw [hfd] at c2
      rw [hF] at c1 ⊢
      refine Cov.or c1 c2 fun x hx ⟨h1, j, hj, h3⟩ => ?_
      by_cases e : j < k
      · exact .inl ⟨h1, j, e, h3⟩
      · refine .inr ?_
        have ej : j = k := by omega
        rw [ej] at h3
        rw [List.drop_eq_getElem_cons (show m < x.length by omega), h1, ← getD_of (d := 0) (List.getElem?_eq_getElem (show m < x.length by omega)), h3]
theorem walkF_po {w : Nat} {F : Tb} (G : Gs w F) (htr : trimM F = true) : ∀ (m : Nat) (d : Sd3) (ws : List Int), d.1 = F → SI F d.2.1 d.2.2 → d.2.2 ≤ 2 ^ 25 → m ≤ F.length → ws.length = F.length - m → (∀ x ∈ ws, x.natAbs ≤ 2 ^ (30 + 2 * ws.length)) → Po d (fun x => x.drop m = ws) (walkF m d ws)
  | 0, d, ws, hF, hs, _, _, hl, hb => by
    have n4 := G.n4
    have h := meet_ok (d := d) (w := w) (by rw [hF]; exact G) (by rw [hF]; exact hs) (ws := ws) (by rw [hF]; exact hl) (fun x hx => Nat.le_trans (hb x hx) (p2 (by omega)))
    exact ⟨h.f, h.si, h.le, fun x h1 h2 h3 => h.cov x h1 (by rw [← h2, List.drop_zero]) h3⟩
  | m + 1, d, ws, hF, hs, hle, hm, hl, hb => by
    have hmn : m < F.length := by omega
    have hwl : ws.length = F.length - 1 - m := by omega
    have hfo := first_ok (midM F (m : Int) ws)
    have ih : ∀ (d : Sd3) (x : Int), d.1 = F → SI F d.2.1 d.2.2 → d.2.2 ≤ 2 ^ 25 → (∀ z ∈ x :: ws, z.natAbs ≤ 2 ^ (30 + 2 * (x :: ws).length)) → Po d (fun y => y.drop m = x :: ws) (walkF m d (x :: ws)) := fun d x h1 h2 h3 h4 => walkF_po G htr m d (x :: ws) h1 h2 h3 (by omega) (by rw [List.length_cons]; omega) h4
    have e : walkF (m + 1) d ws = loopF (walkF m) m ws (-1) (KM (loopF (walkF m) m ws 1 (KM d.2.2) (-(near1 (midM d.1 (m : Int) ws))) d).2.2) (-(near1 (midM d.1 (m : Int) ws)) - 1) (loopF (walkF m) m ws 1 (KM d.2.2) (-(near1 (midM d.1 (m : Int) ws))) d) := rfl
    rw [e, hF]
    have p1 := loop_po G htr hmn hwl hb (wk := walkF m) ih (d := d) hF hle (first := -(near1 (midM F (m : Int) ws))) (by1 := 1) (.inl rfl) hfo.1 (KM d.2.2) 0 d (by omega) ⟨rfl, by rw [hF]; exact hs, Int.le_refl _, fun x _ ⟨_, j, hj, _⟩ => absurd hj (by omega)⟩
    rw [show -(near1 (midM F (m : Int) ws)) + ((0 : Nat) : Int) * 1 = -(near1 (midM F (m : Int) ws)) by omega] at p1
    generalize loopF (walkF m) m ws 1 (KM d.2.2) (-(near1 (midM F (m : Int) ws))) d = d1 at *
    have hf1 : d1.1 = F := p1.f.trans hF
    have hs1 := p1.si
    rw [hF] at hs1
    have p2 := loop_po G htr hmn hwl hb (wk := walkF m) ih (d := d1) hf1 (Int.le_trans p1.le hle) (first := -(near1 (midM F (m : Int) ws)) - 1) (by1 := -1) (.inr rfl) hfo.2 (KM d1.2.2) 0 d1 (by omega) ⟨rfl, by rw [hf1]; exact hs1, Int.le_refl _, fun x _ ⟨_, j, hj, _⟩ => absurd hj (by omega)⟩
    rw [show -(near1 (midM F (m : Int) ws)) - 1 + ((0 : Nat) : Int) * -1 = -(near1 (midM F (m : Int) ws)) - 1 by omega] at p2
    generalize loopF (walkF m) m ws (-1) (KM d1.2.2) (-(near1 (midM F (m : Int) ws)) - 1) d1 = d2 at *
    refine ⟨p2.f.trans p1.f, by rw [hF, ← hf1]; exact p2.si, Int.le_trans p2.le p1.le, ?_⟩
    have c1 := p1.cov.le p2.le
    have c2 := p2.cov
    rw [hf1] at c2
    rw [hF] at c1 ⊢
    generalize -(near1 (midM F (m : Int) ws)) = fi at *
    refine Cov.or c1 c2 fun x hx hxd => ?_
    by_cases e : fi ≤ x.getD m 0
    · exact .inl ⟨hxd, (x.getD m 0 - fi).toNat, by omega⟩
    · exact .inr ⟨hxd, (fi - 1 - x.getD m 0).toNat, by omega⟩
theorem shortM_ok {w : Nat} {rows : Tb} (h : Good rows) (T : TrimOk w rows) : ∃ best least, ShOk rows best least ∧ shortM rows = madeM (trimW rows) best := by
  have n0 := T.gs.n0
  have hl : (initD (trimF rows)).2.2 ≤ 2 ^ 25 := by
    have h1 := T.nq _ (getD_mem n0)
    rw [Nq_int] at h1
    have h2 : ((dotI ((trimF rows).getD 0 []) ((trimF rows).getD 0 []) : Int) : Rat) ≤ (((2 ^ 25 : Nat) : Int) : Rat) := h1
    have h3 : dotI ((trimF rows).getD 0 []) ((trimF rows).getD 0 []) ≤ ((2 ^ 25 : Nat) : Int) := by exact_mod_cast h2
    exact h3
  have p := walkF_po T.gs T.tr (trimF rows).length (initD (trimF rows)) [] rfl (initD_si T.gs) hl (Nat.le_refl _) (by rw [Nat.sub_self]; rfl) (fun x hx => by cases hx)
  refine ⟨_, _, ⟨p.si, fun x h1 _ h3 => p.cov x h1 ?_ h3⟩, rfl⟩
  exact List.drop_of_length_le (by rw [h1]; exact Nat.le_refl _)
end Mi

/-! The same rows otherwise. -/
set_option maxHeartbeats 4000000
namespace Mi
/-- rows that make the same: as many, of one width, the same number of the table, each made of the other -/
structure Eqv (w : Nat) (A B : Tb) : Prop where
  wa : Wd w A
  wb : Wd w B
  len : A.length = B.length
  vol : vol A = vol B
  ab : ∀ r ∈ A, InL B r
  ba : ∀ r ∈ B, InL A r
theorem Eqv.refl {w : Nat} {A : Tb} (W : Wd w A) : Eqv w A A := ⟨W, W, rfl, rfl, fun r hr => InL.row W hr, fun r hr => InL.row W hr⟩
theorem Eqv.trans {w : Nat} {A B C : Tb} (h0 : 0 < A.length) (h : Eqv w A B) (k : Eqv w B C) : Eqv w A C :=
  ⟨h.wa, k.wb, h.len.trans k.len, h.vol.trans k.vol, fun r hr => InL.trans h.wb k.wb (by have := h.len; omega) (by have := h.len; have := k.len; omega) k.ab (h.ab r hr), fun r hr => InL.trans k.wa h.wa (by have := h.len; omega) h0 h.ba (k.ba r hr)⟩
/-- one row comes to another -/
theorem Eqv.op {w : Nat} {A : Tb} (W : Wd w A) (h4 : A.length ≤ 4) {i j : Nat} (hi : i < A.length) (hj : j < A.length) (hij : i ≠ j) (c : Int) : Eqv w A (A.set i (((A.getD i []).zip (A.getD j [])).map fun p => p.1 + c * p.2)) := by
  have hwi := W.at hi
  have hwj := W.at hj
  have W' : Wd w (A.set i (((A.getD i []).zip (A.getD j [])).map fun p => p.1 + c * p.2)) := W.set (by rw [List.length_map, List.length_zip, hwi, hwj, Nat.min_self])
  have hl : (A.set i (((A.getD i []).zip (A.getD j [])).map fun p => p.1 + c * p.2)).length = A.length := List.length_set ..
  have mj : A.getD j [] ∈ A.set i (((A.getD i []).zip (A.getD j [])).map fun p => p.1 + c * p.2) := by
    have := getD_mem (r := A.set i (((A.getD i []).zip (A.getD j [])).map fun p => p.1 + c * p.2)) (i := j) (by omega)
    rw [getD_set hi, if_neg (Ne.symm hij)] at this
    exact this
  have mi : (((A.getD i []).zip (A.getD j [])).map fun p => p.1 + c * p.2) ∈ A.set i (((A.getD i []).zip (A.getD j [])).map fun p => p.1 + c * p.2) := by
    have := getD_mem (r := A.set i (((A.getD i []).zip (A.getD j [])).map fun p => p.1 + c * p.2)) (i := i) (by omega)
    rw [getD_set hi, if_pos rfl] at this
    exact this
  refine ⟨W, W', hl.symm, (vol_op W h4 hi hj hij c).symm, fun r hr => ?_, fun r hr => ?_⟩
  · obtain ⟨k, hk, rfl⟩ := List.getElem_of_mem hr
    by_cases e : k = i
    · subst e
      have h := InL.less W' (by omega) c (InL.row W' mi) (InL.row W' mj)
      rw [add_less] at h
      have hb := less_back (x := A.getD k []) (y := A.getD j []) (by rw [hwi, hwj]) (-c)
      rw [Int.neg_neg] at hb
      rw [hb] at h
      rw [add_less, ← getD_of (d := []) (List.getElem?_eq_getElem hk)]
      exact h
    · refine InL.row W' ?_
      have := getD_mem (r := A.set i (((A.getD i []).zip (A.getD j [])).map fun p => p.1 + c * p.2)) (i := k) (by omega)
      rw [getD_set hi, if_neg e, getD_of (List.getElem?_eq_getElem hk)] at this
      exact this
  · rcases List.mem_or_eq_of_mem_set hr with z | z
    · exact InL.row W z
    · rw [z, add_less]
      exact InL.less W (by omega) _ (InL.row W (getD_mem hi)) (InL.row W (getD_mem hj))
theorem skew1_eqv {n w : Nat} {rows t : Tb} {nu x : Int} (hl : rows.length = n) (hn : 0 < n) (h4 : n ≤ 4) (h : Rs n w t) : Eqv w t (skew1 rows nu t x) := by
  unfold skew1
  simp only
  have hl0 : (0 : Int) < (rows.length : Int) := by omega
  have ho1 := Int.emod_lt_of_pos (drawn nu (60 + x)) hl0
  have ho0 := Int.emod_nonneg (drawn nu (60 + x)) (show (rows.length : Int) ≠ 0 by omega)
  have hq1 := Int.emod_lt_of_pos (drawn nu (60 + x) / 4) hl0
  have hq0 := Int.emod_nonneg (drawn nu (60 + x) / 4) (show (rows.length : Int) ≠ 0 by omega)
  generalize drawn nu (60 + x) % (rows.length : Int) = a at *
  generalize drawn nu (60 + x) / 4 % (rows.length : Int) = b at *
  have := h.len
  split
  · split
    · exact Eqv.op h.wid (by omega) (by omega) (by omega) (by omega) _
    · exact Eqv.refl h.wid
  · exact Eqv.refl h.wid
theorem skewed_eqv {n w : Nat} {rows : Tb} {nu : Int} (hn : 0 < n) (h4 : n ≤ 4) (h : Rs n w rows) : Eqv w rows (skewed rows nu) := by
  unfold skewed
  have key : ∀ (l : List Int) (t : Tb), Rs n w t → Eqv w t (l.foldl (skew1 rows nu) t) := by
    intro l
    induction l with
    | nil => exact fun t ht => Eqv.refl ht.wid
    | cons x r ih => exact fun t ht => Eqv.trans (by have := ht.len; omega) (skew1_eqv h.len hn h4 ht) (ih _ (skew1_rs h.len hn ht))
  exact key _ _ h
/-- the rows from a on, then those ahead -/
def rot (A : Tb) (a : Nat) : Tb := A.drop a ++ A.take a
theorem rot_len (A : Tb) {a : Nat} (ha : a ≤ A.length) : (rot A a).length = A.length := by unfold rot; rw [List.length_append, List.length_drop, List.length_take]; omega
theorem rot_getD (A : Tb) {a i : Nat} (ha : a < A.length) (hi : i < A.length) : (rot A a).getD i [] = A.getD ((i + a) % A.length) [] := by
  unfold rot
  rw [List.getD_eq_getElem?_getD, List.getD_eq_getElem?_getD]
  by_cases h : i < A.length - a
  · rw [List.getElem?_append_left (by rw [List.length_drop]; exact h), List.getElem?_drop, Nat.mod_eq_of_lt (by omega), Nat.add_comm]
  · rw [List.getElem?_append_right (by rw [List.length_drop]; omega), List.length_drop, List.getElem?_take, if_pos (by omega)]
    have : (i + a) % A.length = i - (A.length - a) := by
      rw [show i + a = (i - (A.length - a)) + A.length by omega, Nat.add_mod_right, Nat.mod_eq_of_lt (by omega)]
    rw [this]
theorem gd_cong {G H : Nat → Nat → Rat} {n : Nat} (h4 : n ≤ 4) (e : ∀ i j, i < n → j < n → G i j = H i j) : gd G n = gd H n := by
  match n, e, h4 with
  | 0, _, _ => rfl
  | 1, e, _ => exact e 0 0 (by omega) (by omega)
  | 2, e, _ =>
    show G 0 0 * G 1 1 - G 1 0 * G 1 0 = H 0 0 * H 1 1 - H 1 0 * H 1 0
    rw [e 0 0 (by omega) (by omega), e 1 1 (by omega) (by omega), e 1 0 (by omega) (by omega)]
  | 3, e, _ =>
    show m3 G 2 2 = m3 H 2 2
    unfold m3
    rw [e 0 0 (by omega) (by omega), e 1 1 (by omega) (by omega), e 1 0 (by omega) (by omega), e 2 2 (by omega) (by omega), e 2 1 (by omega) (by omega), e 2 0 (by omega) (by omega)]
  | 4, e, _ =>
    show m4 G 3 3 = m4 H 3 3
    unfold m4
    rw [e 0 0 (by omega) (by omega), e 1 1 (by omega) (by omega), e 1 0 (by omega) (by omega), e 2 2 (by omega) (by omega), e 2 1 (by omega) (by omega), e 2 0 (by omega) (by omega), e 3 0 (by omega) (by omega), e 3 1 (by omega) (by omega), e 3 2 (by omega) (by omega), e 3 3 (by omega) (by omega)]
theorem gd_rot {G : Nat → Nat → Rat} (hc : ∀ a b, G a b = G b a) : ∀ n a : Nat, n ≤ 4 → a < n → gd (fun i j => G ((i + a) % n) ((j + a) % n)) n = gd G n := by
  intro n a h4 h
  have c01 := hc 0 1
  have c02 := hc 0 2
  have c03 := hc 0 3
  have c12 := hc 1 2
  have c13 := hc 1 3
  have c23 := hc 2 3
  clear hc
  match n, a, h4, h with
  | 1, 0, _, _ => rfl
  | 2, 0, _, _ => show G ((0 + 0) % 2) ((0 + 0) % 2) * G ((1 + 0) % 2) ((1 + 0) % 2) - G ((1 + 0) % 2) ((0 + 0) % 2) * G ((1 + 0) % 2) ((0 + 0) % 2) = G 0 0 * G 1 1 - G 1 0 * G 1 0; simp only [show (0 + 0) % 2 = 0 from rfl, show (1 + 0) % 2 = 1 from rfl]
  | 2, 1, _, _ => show G ((0 + 1) % 2) ((0 + 1) % 2) * G ((1 + 1) % 2) ((1 + 1) % 2) - G ((1 + 1) % 2) ((0 + 1) % 2) * G ((1 + 1) % 2) ((0 + 1) % 2) = G 0 0 * G 1 1 - G 1 0 * G 1 0; simp only [show (0 + 1) % 2 = 1 from rfl, show (1 + 1) % 2 = 0 from rfl]; simp only [c01, c02, c03, c12, c13, c23]; grind
  | 3, 0, _, _ => show m3 (fun i j => G ((i + 0) % 3) ((j + 0) % 3)) 2 2 = m3 G 2 2; unfold m3; simp only [show (0 + 0) % 3 = 0 from rfl, show (1 + 0) % 3 = 1 from rfl, show (2 + 0) % 3 = 2 from rfl]
  | 3, 1, _, _ => show m3 (fun i j => G ((i + 1) % 3) ((j + 1) % 3)) 2 2 = m3 G 2 2; unfold m3; simp only [show (0 + 1) % 3 = 1 from rfl, show (1 + 1) % 3 = 2 from rfl, show (2 + 1) % 3 = 0 from rfl]; simp only [c01, c02, c03, c12, c13, c23]; grind
  | 3, 2, _, _ => show m3 (fun i j => G ((i + 2) % 3) ((j + 2) % 3)) 2 2 = m3 G 2 2; unfold m3; simp only [show (0 + 2) % 3 = 2 from rfl, show (1 + 2) % 3 = 0 from rfl, show (2 + 2) % 3 = 1 from rfl]; simp only [c01, c02, c03, c12, c13, c23]; grind
  | 4, 0, _, _ => show m4 (fun i j => G ((i + 0) % 4) ((j + 0) % 4)) 3 3 = m4 G 3 3; unfold m4; simp only [show (0 + 0) % 4 = 0 from rfl, show (1 + 0) % 4 = 1 from rfl, show (2 + 0) % 4 = 2 from rfl, show (3 + 0) % 4 = 3 from rfl]
  | 4, 1, _, _ => show m4 (fun i j => G ((i + 1) % 4) ((j + 1) % 4)) 3 3 = m4 G 3 3; unfold m4; simp only [show (0 + 1) % 4 = 1 from rfl, show (1 + 1) % 4 = 2 from rfl, show (2 + 1) % 4 = 3 from rfl, show (3 + 1) % 4 = 0 from rfl]; simp only [c01, c02, c03, c12, c13, c23]; grind
  | 4, 2, _, _ => show m4 (fun i j => G ((i + 2) % 4) ((j + 2) % 4)) 3 3 = m4 G 3 3; unfold m4; simp only [show (0 + 2) % 4 = 2 from rfl, show (1 + 2) % 4 = 3 from rfl, show (2 + 2) % 4 = 0 from rfl, show (3 + 2) % 4 = 1 from rfl]; simp only [c01, c02, c03, c12, c13, c23]; grind
  | 4, 3, _, _ => show m4 (fun i j => G ((i + 3) % 4) ((j + 3) % 4)) 3 3 = m4 G 3 3; unfold m4; simp only [show (0 + 3) % 4 = 3 from rfl, show (1 + 3) % 4 = 0 from rfl, show (2 + 3) % 4 = 1 from rfl, show (3 + 3) % 4 = 2 from rfl]; simp only [c01, c02, c03, c12, c13, c23]; grind
  | 1, a + 1, _, h => omega
  | 2, a + 2, _, h => omega
  | 3, a + 3, _, h => omega
  | 4, a + 4, _, h => omega
theorem rot_eqv {w : Nat} {A : Tb} (W : Wd w A) (h4 : A.length ≤ 4) {a : Nat} (ha : a < A.length) : Eqv w A (rot A a) := by
  have hm : ∀ r, r ∈ rot A a ↔ r ∈ A := fun r => by
    unfold rot
    rw [List.mem_append]
    constructor
    · rintro (h | h)
      · exact List.mem_of_mem_drop h
      · exact List.mem_of_mem_take h
    · intro h
      rw [← List.take_append_drop a A, List.mem_append] at h
      exact h.symm
  have W' : Wd w (rot A a) := fun r hr => W r ((hm r).mp hr)
  have hl := rot_len A (Nat.le_of_lt ha)
  refine ⟨W, W', hl.symm, ?_, fun r hr => InL.row W' ((hm r).mpr hr), fun r hr => InL.row W ((hm r).mp hr)⟩
  refine int_inj ?_
  rw [vol_gd W h4, vol_gd W' (by omega), hl, ← gd_rot (Gr_comm A) A.length a h4 ha]
  refine (gd_cong h4 fun i j hi hj => ?_).symm
  unfold Gr
  rw [rot_getD A ha hi, rot_getD A ha hj]
end Mi
namespace Mi
/-- the first row's signs turned -/
def neg0 (A : Tb) : Tb := A.set 0 ((A.getD 0 []).map fun x => -x)
theorem neg_less (x : List Int) : (x.map fun z => -z) = lessM x 2 x := by
  induction x with
  | nil => rfl
  | cons a x ih =>
    show -a :: x.map (fun z => -z) = (a - 2 * a) :: lessM x 2 x
    rw [ih]
    congr 1
    omega
def sn (i : Nat) : Rat := if i = 0 then -1 else 1
theorem fq_neg (x : List Int) (z : List Rat) : dq (fq (x.map fun z => -z)) z = -1 * dq (fq x) z := by
  rw [neg_less, fq_less, dq_ax _ _ _ _ rfl]
  have : ((2 : Int) : Rat) = 2 := rfl
  rw [this]
  grind
theorem Gr_neg {A : Tb} (h0 : 0 < A.length) (i j : Nat) : Gr (neg0 A) i j = sn i * sn j * Gr A i j := by
  unfold Gr neg0 sn
  rw [getD_set h0, getD_set h0]
  by_cases hi : i = 0
  · rw [if_pos hi, if_pos hi]
    by_cases hj : j = 0
    · rw [if_pos hj, if_pos hj, fq_neg, dq_comm, fq_neg, hi, hj]
      grind
    · rw [if_neg hj, if_neg hj, fq_neg, hi]
      grind
  · rw [if_neg hi, if_neg hi]
    by_cases hj : j = 0
    · rw [if_pos hj, if_pos hj, dq_comm, fq_neg, hj, dq_comm]
      grind
    · rw [if_neg hj, if_neg hj]
      grind
theorem gd_sign (G : Nat → Nat → Rat) : ∀ n, n ≤ 4 → gd (fun i j => sn i * sn j * G i j) n = gd G n
  | 0, _ => rfl
  | 1, _ => by
    show sn 0 * sn 0 * G 0 0 = G 0 0
    simp only [show sn 0 = -1 from rfl]
    grind
  | 2, _ => by
    show sn 0 * sn 0 * G 0 0 * (sn 1 * sn 1 * G 1 1) - sn 1 * sn 0 * G 1 0 * (sn 1 * sn 0 * G 1 0) = G 0 0 * G 1 1 - G 1 0 * G 1 0
    simp only [show sn 0 = -1 from rfl, show sn 1 = 1 from rfl]
    grind
  | 3, _ => by
    show m3 (fun i j => sn i * sn j * G i j) 2 2 = m3 G 2 2
    unfold m3
    simp only [show sn 0 = -1 from rfl, show sn 1 = 1 from rfl, show sn 2 = 1 from rfl]
    grind
  | 4, _ => by
    show m4 (fun i j => sn i * sn j * G i j) 3 3 = m4 G 3 3
    unfold m4
    simp only [show sn 0 = -1 from rfl, show sn 1 = 1 from rfl, show sn 2 = 1 from rfl, show sn 3 = 1 from rfl]
    grind
  | n + 5, h => by omega
theorem neg0_eqv {w : Nat} {A : Tb} (W : Wd w A) (h0 : 0 < A.length) (h4 : A.length ≤ 4) : Eqv w A (neg0 A) := by
  have hw0 := W.at h0
  have W' : Wd w (neg0 A) := W.set (by rw [List.length_map]; exact hw0)
  have hl : (neg0 A).length = A.length := List.length_set ..
  have m0 : ((A.getD 0 []).map fun x => -x) ∈ neg0 A := by
    have := getD_mem (r := neg0 A) (i := 0) (by omega)
    unfold neg0 at this
    rw [getD_set h0, if_pos rfl] at this
    exact this
  refine ⟨W, W', hl.symm, int_inj ?_, fun r hr => ?_, fun r hr => ?_⟩
  · rw [vol_gd W h4, vol_gd W' (by omega), hl, show Gr (neg0 A) = fun i j => sn i * sn j * Gr A i j from funext fun i => funext fun j => Gr_neg h0 i j, gd_sign _ _ h4]
  · obtain ⟨k, hk, rfl⟩ := List.getElem_of_mem hr
    by_cases e : k = 0
    · subst e
      have h := InL.less W' (by omega) 2 (InL.row W' m0) (InL.row W' m0)
      rw [← neg_less, List.map_map] at h
      have e2 : (A.getD 0 []).map ((fun z : Int => -z) ∘ fun x => -x) = A[0] := by
        rw [getD_of (List.getElem?_eq_getElem hk)]
        refine (List.map_congr_left (g := fun x => x) fun x _ => ?_).trans (List.map_id' _)
        show -(-x) = x
        omega
      rw [e2] at h
      exact h
    · refine InL.row W' ?_
      have := getD_mem (r := neg0 A) (i := k) (by omega)
      unfold neg0 at this
      rw [getD_set h0, if_neg e, getD_of (List.getElem?_eq_getElem hk)] at this
      exact this
  · rcases List.mem_or_eq_of_mem_set hr with z | z
    · exact InL.row W z
    · rw [z, neg_less]
      exact InL.less W h0 2 (InL.row W (getD_mem h0)) (InL.row W (getD_mem h0))
/-- the other rows of the law -/
def otherM (rows : Tb) (nu : Int) : Tb :=
  let r := rot (skewed rows (4 + 5 * (nu / 5))) (nu % (rows.length : Int)).toNat
  if nu / 4 % 2 = 1 then neg0 r else r
theorem Rs.good {n w : Nat} {A : Tb} (h : Rs n w A) (n0 : 0 < n) (n4 : n ≤ 4) (w0 : 0 < w) (w5 : w ≤ 5) (hv : vol A ≠ 0) : Good A := ⟨by rw [h.len]; exact n0, by rw [h.len]; exact n4, ⟨w, w0, w5, by rw [h.len]; exact h⟩, hv⟩
theorem rot_rs {n w : Nat} {A : Tb} (h : Rs n w A) {a : Nat} (ha : a ≤ n) : Rs n w (rot A a) := by
  have hm : ∀ r ∈ rot A a, r ∈ A := fun r hr => by
    rcases List.mem_append.mp hr with z | z
    · exact List.mem_of_mem_drop z
    · exact List.mem_of_mem_take z
  exact ⟨by rw [rot_len A (by rw [h.len]; exact ha), h.len], fun r hr => h.wid r (hm r hr), fun r hr => h.bd r (hm r hr)⟩
theorem neg0_rs {n w : Nat} {A : Tb} (h : Rs n w A) (n0 : 0 < n) : Rs n w (neg0 A) := by
  have hr := h.row n0
  refine h.set (by rw [List.length_map]; exact hr.1) fun x hx => ?_
  obtain ⟨z, hz, rfl⟩ := List.mem_map.mp hx
  have := hr.2 z hz
  omega
theorem other_ok {rows : Tb} (h : Good rows) {nu : Int} (hnu : 0 ≤ nu) : Good (otherM rows nu) ∧ ∃ w, Eqv w rows (otherM rows nu) := by
  obtain ⟨n0, n4, ⟨w, w0, w5, R⟩, hv⟩ := h
  have hl0 : (0 : Int) < (rows.length : Int) := by omega
  have a0 := Int.emod_nonneg nu (show (rows.length : Int) ≠ 0 by omega)
  have a1 := Int.emod_lt_of_pos nu hl0
  unfold otherM
  simp only
  have R1 := skewed_rs (nu := 4 + 5 * (nu / 5)) n0 R
  have E1 := skewed_eqv (nu := 4 + 5 * (nu / 5)) n0 n4 R
  generalize skewed rows (4 + 5 * (nu / 5)) = A at *
  obtain ⟨a, ha⟩ : ∃ a, (nu % (rows.length : Int)).toNat = a := ⟨_, rfl⟩
  rw [ha]
  have hal : a < A.length := by rw [R1.len]; omega
  have R2 := rot_rs R1 (a := a) (by rw [R1.len] at hal; omega)
  have E2 := E1.trans n0 (rot_eqv R1.wid (by rw [R1.len]; exact n4) hal)
  generalize rot A a = B at *
  split
  · have R3 := neg0_rs R2 n0
    have E3 := E2.trans n0 (neg0_eqv R2.wid (by rw [R2.len]; exact n0) (by rw [R2.len]; exact n4))
    exact ⟨R3.good n0 n4 w0 w5 (by rw [← E3.vol]; exact hv), w, E3⟩
  · exact ⟨R2.good n0 n4 w0 w5 (by rw [← E2.vol]; exact hv), w, E2⟩
/-- both tell as short a row -/
theorem other_short {w w' w2 : Nat} {A B : Tb} (E : Eqv w A B) (TA : TrimOk w' A) (TB : TrimOk w2 B) {ba bb : List Int} {la lb : Int} (ha : ShOk A ba la) (hb : ShOk B bb lb) : la = lb := by
  have key : ∀ {A B : Tb} {w w' w2 : Nat} {ba bb : List Int} {la lb : Int}, Eqv w A B → TrimOk w' A → TrimOk w2 B → ShOk A ba la → ShOk B bb lb → la ≤ lb := by
    intro A B w w' w2 ba bb la lb E TA TB ha hb
    have hv : InL B (madeM (trimF B) bb) := TB.inl2 ⟨bb, hb.si.len, rfl⟩
    have hv2 : InL A (madeM (trimF B) bb) := InL.trans E.wb E.wa TB.gs0.n0 TA.gs0.n0 E.ba hv
    have h0 := hb.pos TB
    rw [hb.si.eq] at h0 ⊢
    exact ha.min TA hv2 h0
  have E' : Eqv w B A := ⟨E.wb, E.wa, E.len.symm, E.vol.symm, E.ba, E.ab⟩
  have h1 := key E TA TB ha hb
  have h2 := key E' TB TA hb ha
  omega
end Mi
namespace Mi
theorem eqv_nr {w : Nat} {A B : Tb} (E : Eqv w A B) (ga : Good A) (gb : Good B) {r : List Int} (hr : r ∈ B) : NrOk A r ∧ ∃ b, wofM A r = some b ∧ b.length = A.length ∧ madeM A b = r := by
  obtain ⟨w1, _, G, _⟩ := ga.gs
  have hw : w1 = w := by
    have h0 := G.n0
    rw [← G.wd.at h0, E.wa.at h0]
  subst hw
  refine ⟨⟨w1, G, E.wb r hr, near_ok2 G (fun k hk => nq_nat (ga.nq _ (getD_mem hk)) (by decide)) (E.wb r hr) (nq_nat (gb.nq r hr) (by decide))⟩, ?_⟩
  obtain ⟨b, hb, hm⟩ := E.ba r hr
  exact ⟨b, by rw [← hm]; exact wof_self G hb, hb, hm⟩
end Mi
namespace Mi
/-- what the law of the other rows asks of each of the two -/
structure Two (X : Tb) (l : Int) : Prop where
  good : Good X
  w : ∃ w, w ≤ 5 ∧ Wd w X ∧ (madeM X (shortM X)).length = w
  sl : (shortM X).length = X.length
  bits : ∀ r ∈ X, ∀ x ∈ r, x.natAbs < 2 ^ 64
  size : dotI (madeM X (shortM X)) (madeM X (shortM X)) = l
  vb : ∀ x ∈ madeM X (shortM X), x.natAbs < 2 ^ 64
theorem two_mk {X : Tb} {w : Nat} (h : Good X) (T : TrimOk w X) {best : List Int} {l : Int} (hs : ShOk X best l) (e : shortM X = madeM (trimW X) best) : Two X l := by
  have hr := hs.row T
  obtain ⟨h1, _⟩ := hs.nz T
  rw [← e] at hr h1
  have hml : (madeM X (shortM X)).length = w := madeM_len T.gs0.wd T.gs0.n0
  refine ⟨h, ⟨w, T.gs0.w5, T.gs0.wd, hml⟩, h1, fun r hr x hx => ?_, by rw [hr, hs.si.eq], fun x hx => ?_⟩
  · exact Nat.lt_trans ((h.rwd T.gs0).bd r hr x hx) (by decide)
  · rw [hr] at hx
    exact Nat.lt_of_le_of_lt (made_bits2 T.gs.wd T.gs.n0 T.gs.n4 hs.si.len hs.si.bd (fun r hr x hx => bits13 (T.nq r hr) x hx) x hx) (by decide)
end Mi

set_option maxHeartbeats 4000000
namespace Tr
open PySem L2

/-! ### two heaps: B what stands for good, H all that is tracked -/
structure Go (B H B' H' : Hp) : Prop where
  b : Same B B'
  h : Same H H'
  s : Same B' H'
  f : ∀ p, B p = none → H p ≠ none → B' p = none
section
variable {B H B1 H1 B2 H2 : Hp} {p : Addr} {o : HO}
theorem same_new (h : H p = none) : Same H (upd H p o) := fun b x e => by
  rw [upd_ne (ne_of_none e h)]
  exact e
theorem Go.refl (s : Same B H) : Go B H B H := ⟨.refl _, .refl _, s, fun _ h _ => h⟩
theorem Go.trans (a : Go B H B1 H1) (c : Go B1 H1 B2 H2) : Go B H B2 H2 :=
  ⟨a.b.trans c.b, a.h.trans c.h, c.s, fun p h1 h2 => c.f p (a.f p h1 h2) (by
    cases e : H p with
    | none => exact absurd e h2
    | some o => rw [a.h p o e]; exact fun q => nomatch q)⟩
theorem Go.ltr (s : Same B H) (hn : H p = none) : Go B H B (upd H p o) :=
  ⟨.refl _, same_new hn, s.trans (same_new hn), fun _ h _ => h⟩
theorem Go.new (s : Same B H) (hn : H p = none) : Go B H (upd B p o) (upd H p o) := by
  have hb : B p = none := s.free hn
  refine ⟨same_new hb, same_new hn, fun b x e => ?_, fun q h1 h2 => ?_⟩
  · by_cases hq : b = p
    · subst hq
      rw [upd_same] at e ⊢
      exact e
    · rw [upd_ne hq] at e ⊢
      exact s b x e
  · have hq : q ≠ p := fun z => h2 (by rw [z]; exact hn)
    rw [upd_ne hq]
    exact h1
/-- what was laid and left open is closed -/
theorem Go.frz (g : Go B H B1 H1) (h0 : H p = none) (hb : B1 p = none) (hp : H1 p = some o) : Go B H (upd B1 p o) H1 := by
  refine ⟨g.b.trans (same_new hb), g.h, fun b x e => ?_, fun q h1 h2 => ?_⟩
  · by_cases hq : b = p
    · subst hq
      rw [upd_same] at e
      rw [← e]
      exact hp
    · rw [upd_ne hq] at e
      exact g.s b x e
  · have hq : q ≠ p := fun z => h2 (by rw [z]; exact h0)
    rw [upd_ne hq]
    exact g.f q h1 h2
/-- an open one is written -/
theorem Go.wr (g : Go B H B1 H1) (h0 : H p = none) (hb : B1 p = none) : Go B H B1 (upd H1 p o) := by
  refine ⟨g.b, fun b x e => ?_, fun b x e => ?_, g.f⟩
  · rw [upd_ne (ne_of_none e h0)]
    exact g.h b x e
  · rw [upd_ne (ne_of_none e hb)]
    exact g.s b x e
end

/-! ### what a value stands for -/
structure Rp (α : Type) where
  r : Hp → V → α → Prop
  mono : ∀ {H H' : Hp} {v : V} {x : α}, Same H H' → r H v x → r H' v x
structure Rps (α : Type) where
  r : Hp → List V → α → Prop
  mono : ∀ {H H' : Hp} {v : List V} {x : α}, Same H H' → r H v x → r H' v x
section
variable {α β γ δ ε : Type}
theorem prd_mono {R : Rp α} {H H' : Hp} (e : Same H H') : ∀ {vs : List V} {xs : List α}, Paired (R.r H) vs xs → Paired (R.r H') vs xs
  | _, _, .nil => .nil
  | _, _, .cons r t => .cons (R.mono e r) (prd_mono e t)
theorem prd_len {F : α → β → Prop} : ∀ {xs : List α} {ys : List β}, Paired F xs ys → xs.length = ys.length
  | _, _, .nil => rfl
  | _, _, .cons _ t => by rw [List.length_cons, List.length_cons, prd_len t]
theorem prd_get {F : α → β → Prop} : ∀ {xs : List α} {ys : List β} {i : Nat} {y : β}, Paired F xs ys → ys[i]? = some y → ∃ x, xs[i]? = some x ∧ F x y
  | _, _, _, _, .nil, e => by simp at e
  | _, _, 0, _, .cons r _, e => by simp at e; subst e; exact ⟨_, rfl, r⟩
  | _, _, i + 1, y, .cons _ t, e => by
    obtain ⟨u, h1, h2⟩ := prd_get (i := i) (y := y) t (by simpa using e)
    exact ⟨u, by simpa using h1, h2⟩
theorem prd_app {F : α → β → Prop} : ∀ {xs xs' : List α} {ys ys' : List β}, Paired F xs ys → Paired F xs' ys' → Paired F (xs ++ xs') (ys ++ ys')
  | _, _, _, _, .nil, s => s
  | _, _, _, _, .cons r t, s => .cons r (prd_app t s)
theorem prd_take {F : α → β → Prop} : ∀ (n : Nat) {xs : List α} {ys : List β}, Paired F xs ys → Paired F (xs.take n) (ys.take n)
  | 0, _, _, _ => .nil
  | _ + 1, _, _, .nil => .nil
  | n + 1, _, _, .cons r t => .cons r (prd_take n t)
theorem prd_drop {F : α → β → Prop} : ∀ (n : Nat) {xs : List α} {ys : List β}, Paired F xs ys → Paired F (xs.drop n) (ys.drop n)
  | 0, _, _, r => r
  | _ + 1, _, _, .nil => .nil
  | n + 1, _, _, .cons _ t => prd_drop n t
theorem prd_set {F : α → β → Prop} {x : α} {y : β} (r : F x y) : ∀ {xs : List α} {ys : List β} (i : Nat), Paired F xs ys → Paired F (xs.set i x) (ys.set i y)
  | _, _, _, .nil => .nil
  | _, _, 0, .cons _ t => .cons r t
  | _, _, i + 1, .cons q t => .cons q (prd_set r i t)
theorem prd_flat {F : α → β → Prop} : ∀ (n : Nat) {xs : List α} {ys : List β}, Paired F xs ys → Paired F (List.replicate n xs).flatten (List.replicate n ys).flatten
  | 0, _, _, _ => .nil
  | n + 1, xs, ys, h => by
    rw [List.replicate_succ, List.replicate_succ, List.flatten_cons, List.flatten_cons]
    exact prd_app h (prd_flat n h)

def intR : Rp Int := ⟨fun _ v i => v = .int i, fun _ h => h⟩
def blR : Rp Bool := ⟨fun _ v b => v = .bl b, fun _ h => h⟩
def nonR : Rp Unit := ⟨fun _ v _ => v = .non, fun _ h => h⟩
def adrR : Rp Addr := ⟨fun _ v a => v = .ref a, fun _ h => h⟩
def anyR : Rp Unit := ⟨fun _ _ _ => True, fun _ h => h⟩
def tupR (R : Rp α) : Rp (List α) := ⟨fun H v xs => ∃ p vs, v = .ref p ∧ H p = some (.tup vs) ∧ Paired (R.r H) vs xs, fun e ⟨p, vs, h1, h2, h3⟩ => ⟨p, vs, h1, e _ _ h2, prd_mono e h3⟩⟩
def lstR (R : Rp α) : Rp (List α) := ⟨fun H v xs => ∃ p vs, v = .ref p ∧ H p = some (.lst vs) ∧ Paired (R.r H) vs xs, fun e ⟨p, vs, h1, h2, h3⟩ => ⟨p, vs, h1, e _ _ h2, prd_mono e h3⟩⟩
def pairR (R : Rp α) (S : Rp β) : Rp (α × β) := ⟨fun H v x => ∃ p a b, v = .ref p ∧ H p = some (.tup [a, b]) ∧ R.r H a x.1 ∧ S.r H b x.2, fun e ⟨p, a, b, h1, h2, h3, h4⟩ => ⟨p, a, b, h1, e _ _ h2, R.mono e h3, S.mono e h4⟩⟩
def trioR (R : Rp α) (S : Rp β) (T : Rp γ) : Rp (α × β × γ) := ⟨fun H v x => ∃ p a b c, v = .ref p ∧ H p = some (.tup [a, b, c]) ∧ R.r H a x.1 ∧ S.r H b x.2.1 ∧ T.r H c x.2.2, fun e ⟨p, a, b, c, h1, h2, h3, h4, h5⟩ => ⟨p, a, b, c, h1, e _ _ h2, R.mono e h3, S.mono e h4, T.mono e h5⟩⟩
/-- None or the thing -/
def optR (R : Rp α) : Rp (Option α) := ⟨fun H v x => match x with | none => v = .non | some y => R.r H v y, fun {H H' v x} e h => by
  cases x with
  | none => exact h
  | some y => exact R.mono e h⟩
/-- a fraction -/
def frR : Rp Rat := ⟨fun H v q => (pairR intR intR).r H v (q.num, (q.den : Int)), fun e h => (pairR intR intR).mono e h⟩
/-- the script: a list that is known to the object -/
def scrR (K : PySem.W.Frag) : Rp (List Int) := ⟨fun H v ns => ∃ p, v = .ref p ∧ SqL K H p (ns.map V.int), fun e ⟨p, h1, h2⟩ => ⟨p, h1, Same.seq e h2⟩⟩
def a1 (R : Rp α) : Rps α := ⟨fun H vs a => ∃ u, vs = [u] ∧ R.r H u a, fun e ⟨u, h1, h2⟩ => ⟨u, h1, R.mono e h2⟩⟩
def a2 (R : Rp α) (S : Rp β) : Rps (α × β) := ⟨fun H vs a => ∃ u v, vs = [u, v] ∧ R.r H u a.1 ∧ S.r H v a.2, fun e ⟨u, v, h1, h2, h3⟩ => ⟨u, v, h1, R.mono e h2, S.mono e h3⟩⟩
def a3 (R : Rp α) (S : Rp β) (T : Rp γ) : Rps (α × β × γ) := ⟨fun H vs a => ∃ u v x, vs = [u, v, x] ∧ R.r H u a.1 ∧ S.r H v a.2.1 ∧ T.r H x a.2.2, fun e ⟨u, v, x, h1, h2, h3, h4⟩ => ⟨u, v, x, h1, R.mono e h2, S.mono e h3, T.mono e h4⟩⟩
variable {ζ η : Type}
def a4 (R : Rp α) (S : Rp β) (T : Rp γ) (U : Rp δ) : Rps (α × β × γ × δ) := ⟨fun H vs a => ∃ u v x y, vs = [u, v, x, y] ∧ R.r H u a.1 ∧ S.r H v a.2.1 ∧ T.r H x a.2.2.1 ∧ U.r H y a.2.2.2, fun e ⟨u, v, x, y, h1, h2, h3, h4, h5⟩ => ⟨u, v, x, y, h1, R.mono e h2, S.mono e h3, T.mono e h4, U.mono e h5⟩⟩
end

/-! ### the slots -/
structure Cell where
  {α : Type}
  R : Rp α
  x : α
abbrev En := List (Option Cell)
/-- what holds of the two heaps through an expression; B0, H0: at the def's entry -/
structure Ob (B0 H0 : Hp) where
  p : Hp → Hp → Prop
  st : ∀ {B H B' H' : Hp}, p B H → Go B H B' H' → p B' H'
  go : ∀ {B H : Hp}, p B H → Go B0 H0 B H
def bo (B0 H0 : Hp) : Ob B0 H0 := ⟨Go B0 H0, fun a b => a.trans b, fun a => a⟩
/-- a list at p that the def may still change -/
def mo (B0 H0 : Hp) {α : Type} (p : Addr) (R : Rp α) (xs : List α) : Ob B0 H0 :=
  ⟨fun B H => Go B0 H0 B H ∧ H0 p = none ∧ B p = none ∧ ∃ vs, H p = some (.lst vs) ∧ Paired (R.r B) vs xs,
   fun ⟨a, h0, hb, vs, h1, h2⟩ g => ⟨a.trans g, h0, g.f p hb (by rw [h1]; exact fun q => nomatch q), vs, g.h _ _ h1, prd_mono g.b h2⟩, fun a => a.1⟩
structure Sat {B0 H0 : Hp} (O : Ob B0 H0) (G : En) (σ : L2.St) (B H : Hp) : Prop where
  o : O.p B H
  len : σ.length = G.length
  c : ∀ (i : Nat) (c : Cell), G[i]? = some (some c) → ∃ v, σ[i]? = some (some v) ∧ c.R.r B v c.x
section
variable {B0 H0 : Hp} {O : Ob B0 H0} {G : En} {σ : L2.St} {B H B' H' : Hp}
theorem Sat.sm (h : Sat O G σ B H) : Same B H := (O.go h.o).s
theorem Sat.refl (h : Sat O G σ B H) : Go B H B H := Go.refl h.sm
theorem Sat.go (h : Sat O G σ B H) (g : Go B H B' H') : Sat O G σ B' H' := ⟨O.st h.o g, h.len, fun i c e => let ⟨v, h1, h2⟩ := h.c i c e; ⟨v, h1, c.R.mono g.b h2⟩⟩
theorem Sat.set {α : Type} {R : Rp α} {x : α} {v : V} (h : Sat O G σ B H) (i : Nat) (r : R.r B v x) : Sat O (G.set i (some ⟨R, x⟩)) (σ.set i (some v)) B H := by
  refine ⟨h.o, by rw [List.length_set, List.length_set]; exact h.len, fun j c e => ?_⟩
  by_cases hj : i = j
  · subst hj
    by_cases hl : i < G.length
    · rw [List.getElem?_set_self hl] at e
      cases e
      exact ⟨v, by rw [List.getElem?_set_self (by rw [h.len]; exact hl)], r⟩
    · rw [List.getElem?_eq_none (by simpa using hl)] at e
      cases e
  · rw [List.getElem?_set_ne hj] at e
    obtain ⟨u, h1, h2⟩ := h.c j c e
    exact ⟨u, by rw [List.getElem?_set_ne hj]; exact h1, h2⟩
/-- forgetting slots -/
def Wk : En → En → Prop
  | [], [] => True
  | a :: r, b :: s => (b = none ∨ b = a) ∧ Wk r s
  | _, _ => False
theorem Wk.len : ∀ {G G' : En}, Wk G G' → G.length = G'.length
  | [], [], _ => rfl
  | _ :: r, _ :: s, h => by rw [List.length_cons, List.length_cons, Wk.len h.2]
  | [], _ :: _, h => h.elim
  | _ :: _, [], h => h.elim
theorem Wk.at : ∀ {G G' : En}, Wk G G' → ∀ {i : Nat} {c : Cell}, G'[i]? = some (some c) → G[i]? = some (some c)
  | [], [], _, i, c, e => e
  | a :: r, b :: s, h, 0, c, e => by
    have e' : b = some c := by simpa using e
    rcases h.1 with z | z
    · rw [z] at e'; cases e'
    · rw [← z, e']; rfl
  | a :: r, b :: s, h, i + 1, c, e => by
    have := Wk.at h.2 (i := i) (c := c) (by simpa using e)
    simpa using this
  | [], _ :: _, h, _, _, _ => h.elim
  | _ :: _, [], h, _, _, _ => h.elim
theorem Sat.wk {G' : En} (h : Sat O G σ B H) (w : Wk G G') : Sat O G' σ B H := ⟨h.o, h.len.trans w.len, fun i c e => h.c i c (w.at e)⟩
theorem Sat.ob {O' : Ob B0 H0} (h : Sat O G σ B H) (w : O.p B H → O'.p B H) : Sat O' G σ B H := ⟨w h.o, h.len, h.c⟩
end
end Tr

set_option maxHeartbeats 4000000
namespace Tr
open PySem L2

/-! ### readings by meaning -/
def semE (X : Cx) (e : Expr) : TE := fun σ H Q => ∀ (pins : List (Addr × Obj)) (s : Shared), Inv X pins σ H s → wpAny (model X.prog X.w) X.A (eval e X.env) (EP X pins σ Q) X.xe s
def semT (X : Cx) (e : Expr) : TT := fun σ H Q => ∀ (pins : List (Addr × Obj)) (s : Shared), Inv X pins σ H s → wpAny (model X.prog X.w) X.A (isTrue e X.env (eval e X.env)) (TP X pins σ Q) X.xe s
def semW (X : Cx) (e : Expr) : TT := fun σ H Q => ∀ (whole : Sem Value) (pins : List (Addr × Obj)) (s : Shared), Inv X pins σ H s → wpAny (model X.prog X.w) X.A (isTrue e X.env whole) (TP X pins σ Q) X.xe s
def semA (X : Cx) (es : List Expr) : TA := fun σ H Q => ∀ (pos : Pos) (pins : List (Addr × Obj)) (s : Shared), Inv X pins σ H s → wpAny (model X.prog X.w) X.A (spliced (backTo pos (starEach es X.env))) (AP X pins σ Q) X.xe s
theorem semPE {X : Cx} {e : Expr} : PE X e (semE X e) := ⟨fun pins s _ _ _ I h => h pins s I⟩
theorem semPT {X : Cx} {e : Expr} : PT X e (semT X e) := ⟨fun pins s _ _ _ I h => h pins s I⟩
theorem semPW {X : Cx} {e : Expr} : PW X e (semW X e) := ⟨fun w pins s _ _ _ I h => h w pins s I⟩
theorem semPA {X : Cx} {es : List Expr} : PA X es (semA X es) := ⟨fun pos pins s _ _ _ I h => h pos pins s I⟩

theorem mulR {i j : Int} (h : j.natAbs < 2 ^ 64) : IntMulOk i j := IntMulOk.of_right (by
  unfold Builtin.Int.intBits
  split
  · omega
  · rename_i h0
    have hn : j.natAbs ≠ 0 := by intro z; apply h0; simp; omega
    have := (Nat.log2_lt hn).mpr h
    omega)
theorem mulL {i j : Int} (h : i.natAbs < 2 ^ 64) : IntMulOk i j := IntMulOk.of_left (by
  unfold Builtin.Int.intBits
  split
  · omega
  · rename_i h0
    have hn : i.natAbs ≠ 0 := by intro z; apply h0; simp; omega
    have := (Nat.log2_lt hn).mpr h
    omega)
theorem mulB {i j : Int} (a b : Nat) (ha : i.natAbs < 2 ^ a) (hb : j.natAbs < 2 ^ b) (h : a + b ≤ 900000) : IntMulOk i j :=
  (wide_mul (a := a + 1) (b := b + 1) (Nat.lt_trans ha (Nat.pow_lt_pow_right (by decide) (Nat.lt_succ_self _))) (Nat.lt_trans hb (Nat.pow_lt_pow_right (by decide) (Nat.lt_succ_self _))) (Nat.succ_pos _) (Nat.succ_pos _) (by omega)).ok
/-- numbers of any size that a script can hold -/
theorem mulW {i j : Int} (a b : Nat) (ha : i.natAbs < 2 ^ a) (hb : j.natAbs < 2 ^ b) (h0 : 0 < a) (h1 : 0 < b) (h : a + b ≤ 100000000) : IntMulOk i j := by
  have k : ∀ {i : Int} {a : Nat}, i.natAbs < 2 ^ a → 0 < a → Builtin.Int.intBits i ≤ a := fun {i a} ha h0 => by
    unfold Builtin.Int.intBits
    split
    · omega
    · have := PySem.Flt.log2_lt_of h0 ha
      omega
  have ha' := k ha h0
  have hb' := k hb h1
  have e : bitsLine = 134217728 := by decide
  unfold IntMulOk
  intro z
  rw [Bool.and_eq_true] at z
  have z2 := z.2
  unfold Builtin.Int.intTooBig at z2
  have z3 := of_decide_eq_true z2
  rw [e] at z3
  omega
theorem bits_lt {z : Int} {n : Nat} (h : Builtin.Int.intBits z ≤ n) : z.natAbs < 2 ^ n := by
  unfold Builtin.Int.intBits at h
  split at h
  · rename_i h0
    have : z = 0 := by simpa using h0
    subst this
    exact Nat.pow_pos (by decide)
  · rename_i h0
    have hn : z.natAbs ≠ 0 := by intro q; apply h0; simp; omega
    exact (Nat.log2_lt hn).mp (by omega)
theorem divB {j : Int} (b : Nat) (h : j ≠ 0) (hb : j.natAbs < 2 ^ b) (h9 : b ≤ 9000) : j ≠ 0 ∧ j.natAbs.log2 < 9000 := ⟨h, by
  have hn : j.natAbs ≠ 0 := by omega
  have := (Nat.log2_lt hn).mpr hb
  omega⟩
section
variable {B0 H0 : Hp} {α β γ δ : Type}
/-- e stands for x -/
def E (X : Cx) (O : Ob B0 H0) (G : En) (e : Expr) (R : Rp α) (x : α) : Prop :=
  ∀ (σ : L2.St) (B H : Hp), Sat O G σ B H → ∀ Q : VK, (∀ v B' H', Go B H B' H' → R.r B' v x → Q v H') → semE X e σ H Q
/-- e is a new list, open -/
def EL (X : Cx) (O : Ob B0 H0) (G : En) (e : Expr) (R : Rp α) (xs : List α) : Prop :=
  ∀ (σ : L2.St) (B H : Hp), Sat O G σ B H → ∀ Q : VK, (∀ p vs B' H', Go B H B' H' → H p = none → B' p = none → H' p = some (.lst vs) → Paired (R.r B') vs xs → Q (.ref p) H') → semE X e σ H Q
/-- e is a list that stands while O stands -/
def LR (X : Cx) (O : Ob B0 H0) (G : En) (e : Expr) (R : Rp α) (xs : List α) : Prop :=
  ∀ (σ : L2.St) (B H : Hp), Sat O G σ B H → ∀ Q : VK, (∀ p B' H', Go B H B' H' → (∀ B1 H1, Same B' B1 → O.p B1 H1 → ∃ vs, H1 p = some (.lst vs) ∧ Paired (R.r B1) vs xs) → Q (.ref p) H') → semE X e σ H Q
/-- a test -/
def T (X : Cx) (O : Ob B0 H0) (G : En) (e : Expr) (b : Bool) : Prop :=
  ∀ (σ : L2.St) (B H : Hp), Sat O G σ B H → ∀ Q : Bool → Hp → Prop, (∀ B' H', Go B H B' H' → Q b H') → semT X e σ H Q
def TW (X : Cx) (O : Ob B0 H0) (G : En) (e : Expr) (b : Bool) : Prop :=
  ∀ (σ : L2.St) (B H : Hp), Sat O G σ B H → ∀ Q : Bool → Hp → Prop, (∀ B' H', Go B H B' H' → Q b H') → semW X e σ H Q
/-- arguments -/
def EA (X : Cx) (O : Ob B0 H0) (G : En) (es : List Expr) (R : Rps α) (x : α) : Prop :=
  ∀ (σ : L2.St) (B H : Hp), Sat O G σ B H → ∀ Q : List V → Hp → Prop, (∀ vs B' H', Go B H B' H' → R.r B' vs x → Q vs H') → semA X es σ H Q

variable {X : Cx} {O : Ob B0 H0} {G : En} {e a b c : Expr} {es : List Expr} {R : Rp α} {S : Rp β} {U : Rp γ} {x : α} {y : β} {z : γ} {pos p0 p1 p2 : Pos}

theorem E.of {t : TE} (h : PE X e t) (k : ∀ (σ : L2.St) (B H : Hp), Sat O G σ B H → ∀ Q : VK, (∀ v B' H', Go B H B' H' → R.r B' v x → Q v H') → t σ H Q) : E X O G e R x :=
  fun σ B H s Q q pins sh I => h.run pins sh σ H Q I (k σ B H s Q q)
theorem EL.of {t : TE} {xs : List α} (h : PE X e t) (k : ∀ (σ : L2.St) (B H : Hp), Sat O G σ B H → ∀ Q : VK, (∀ p vs B' H', Go B H B' H' → H p = none → B' p = none → H' p = some (.lst vs) → Paired (R.r B') vs xs → Q (.ref p) H') → t σ H Q) : EL X O G e R xs :=
  fun σ B H s Q q pins sh I => h.run pins sh σ H Q I (k σ B H s Q q)
theorem T.of {t : TT} {k : Bool} (h : PT X e t) (g : ∀ (σ : L2.St) (B H : Hp), Sat O G σ B H → ∀ Q : Bool → Hp → Prop, (∀ B' H', Go B H B' H' → Q k H') → t σ H Q) : T X O G e k :=
  fun σ B H s Q q pins sh I => h.run pins sh σ H Q I (g σ B H s Q q)
theorem TW.of {t : TT} {k : Bool} (h : PW X e t) (g : ∀ (σ : L2.St) (B H : Hp), Sat O G σ B H → ∀ Q : Bool → Hp → Prop, (∀ B' H', Go B H B' H' → Q k H') → t σ H Q) : TW X O G e k :=
  fun σ B H s Q q w pins sh I => h.run w pins sh σ H Q I (g σ B H s Q q)
theorem E.eq {x' : α} (h : E X O G e R x) (q : x = x') : E X O G e R x' := q ▸ h
theorem E.conv {S : Rp β} {y : β} (h : E X O G e R x) (k : ∀ B v, R.r B v x → S.r B v y) : E X O G e S y :=
  fun σ B H s Q q => h σ B H s Q fun v B' H' g r => q v B' H' g (k _ _ r)
theorem T.eq {k k' : Bool} (h : T X O G e k) (q : k = k') : T X O G e k' := q ▸ h

/-! ### constants, names -/
theorem E.int {i : Int} {j : Nat} : E X O G (.Constant (.int i) j pos) intR i := E.of pe_int fun σ B H s Q q => q _ B H s.refl rfl
theorem E.bl {i : Bool} {j : Nat} : E X O G (.Constant (.bool i) j pos) blR i := E.of pe_bl fun σ B H s Q q => q _ B H s.refl rfl
theorem E.non {j : Nat} : E X O G (.Constant .none j pos) nonR () := E.of pe_non fun σ B H s Q q => q _ B H s.refl rfl
theorem E.nonO {j : Nat} : E X O G (.Constant .none j pos) (optR R) none := E.of pe_non fun σ B H s Q q => q _ B H s.refl rfl
theorem E.var (i : Nat) {n : Str} (hg : G[i]? = some (some ⟨R, x⟩)) (hN : X.N[i]? = some n := by rfl) (hv : Vis X.env.scope n := by first | exact Or.inl rfl | exact Or.inr (Or.inl rfl) | exact Or.inr (Or.inr rfl)) (hd : (n == ("__debug__" : Str)) = false := by decide)
    (hcd : (n == ("__classdict__" : Str)) = false := by decide) : E X O G (.Name n pos) R x :=
  E.of (pe_var hN hv hd hcd) fun σ B H s Q q => let ⟨v, h1, h2⟩ := s.c i _ hg; ⟨v, h1, q v B H s.refl h2⟩
theorem E.opt (h : E X O G e R x) : E X O G e (optR R) (some x) := h.conv fun _ _ r => r

/-! ### whole numbers -/
theorem E.op {op : Operator} {r : R2} (ho : OpR X (binaryOp op) r) (ha : E X O G a R x) (hb : E X O G b S y)
    (k : ∀ v w B H (Q : VK), Same B H → R.r B v x → S.r B w y → (∀ u B' H', Go B H B' H' → U.r B' u z → Q u H') → r v w H Q) : E X O G (.BinOp a op b pos) U z :=
  E.of (pe_op ho semPE semPE) fun σ B H s Q q => ha σ B H s _ fun v B1 H1 g1 r1 => hb σ B1 H1 (s.go g1) _ fun w B2 H2 g2 r2 =>
    k v w B2 H2 Q g2.s (R.mono g2.b r1) r2 fun u B3 H3 g3 r3 => q u B3 H3 ((g1.trans g2).trans g3) r3
theorem E.ii {op : Operator} {f : Int → Int → V} {i j n : Int} (ho : OpR X (binaryOp op) (rI0 f)) (hf : f i j = .int n) (ha : E X O G a intR i) (hb : E X O G b intR j) : E X O G (.BinOp a op b pos) intR n :=
  E.op ho ha hb fun v w B H Q s r1 r2 q => ⟨i, j, r1, r2, by rw [hf]; exact q _ B H (.refl s) rfl⟩
theorem E.iC {op : Operator} {C : Int → Int → Prop} {f : Int → Int → V} {i j n : Int} (ho : OpR X (binaryOp op) (rI C f)) (hf : f i j = .int n) (hc : C i j) (ha : E X O G a intR i) (hb : E X O G b intR j) : E X O G (.BinOp a op b pos) intR n :=
  E.op ho ha hb fun v w B H Q s r1 r2 q => ⟨i, j, r1, r2, hc, by rw [hf]; exact q _ B H (.refl s) rfl⟩
variable {i j : Int}
theorem E.add (ha : E X O G a intR i) (hb : E X O G b intR j) : E X O G (.BinOp a .Add b pos) intR (i + j) := E.ii op_add rfl ha hb
theorem E.sub (ha : E X O G a intR i) (hb : E X O G b intR j) : E X O G (.BinOp a .Sub b pos) intR (i - j) := E.ii op_sub rfl ha hb
theorem op_mulX : OpR X (binaryOp .Mult) (rI IntMulOk fun i j => .int (i * j)) := opI fun _ _ _ _ _ _ _ hc q => PyProof.Rows.mul_int q hc
theorem E.mul (ha : E X O G a intR i) (hb : E X O G b intR j) (hc : IntMulOk i j) : E X O G (.BinOp a .Mult b pos) intR (i * j) := E.iC op_mulX rfl hc ha hb
theorem E.fdiv (ha : E X O G a intR i) (hb : E X O G b intR j) (hc : CDivW i j) : E X O G (.BinOp a .FloorDiv b pos) intR (i / j) := E.iC op_fdivW rfl hc ha hb
theorem divP {i j : Int} (h : 0 < j) (hb : j < 2 ^ 60) : CDivW i j := ⟨h, by
  have hn : j.natAbs ≠ 0 := by omega
  have := (Nat.log2_lt hn).mpr (show j.natAbs < 2 ^ 60 by omega)
  omega⟩
/-- the divisor of any sign, not 0 -/
def CDivA (_ j : Int) : Prop := j ≠ 0 ∧ j.natAbs.log2 < 9000
theorem op_fdivA : OpR X (binaryOp .FloorDiv) (rI CDivA fun i j => .int (i.fdiv j)) := opI fun i j _ _ _ _ _ hc q => PyProof.Rows.floordiv_int hc.1 q (.inl (PyProof.noPylong_of_log2 hc.2))
theorem E.fdivA (ha : E X O G a intR i) (hb : E X O G b intR j) (hc : CDivA i j) : E X O G (.BinOp a .FloorDiv b pos) intR (i.fdiv j) := E.iC op_fdivA rfl hc ha hb
theorem E.mod (ha : E X O G a intR i) (hb : E X O G b intR j) (hc : 0 < j) : E X O G (.BinOp a .Mod b pos) intR (i % j) := E.iC op_mod rfl hc ha hb
theorem E.modN (ha : E X O G a intR i) (hb : E X O G b intR j) (hc : j ≠ 0) : E X O G (.BinOp a .Mod b pos) intR (i.fmod j) := E.iC op_modN rfl hc ha hb
theorem E.neg (ha : E X O G a intR i) : E X O G (.UnaryOp .USub a pos) intR (-i) :=
  E.of (pe_un un_neg semPE) fun σ B H s Q q => ha σ B H s _ fun v B1 H1 g1 r1 => ⟨i, r1, q _ B1 H1 g1 rfl⟩

/-! ### comparisons -/
theorem E.cmp {op : CmpOp} {r : R2} (ho : OpR X (compareOp op) r) (hm : behindInMarks op b = false) (ha : E X O G a R x) (hb : E X O G b S y)
    (k : ∀ v w B H (Q : VK), Same B H → R.r B v x → S.r B w y → (∀ u B' H', Go B H B' H' → U.r B' u z → Q u H') → r v w H Q) : E X O G (.Compare a [op] [b] pos) U z :=
  E.of (pe_cmpR ho semPE semPE hm) fun σ B H s Q q => ha σ B H s _ fun v B1 H1 g1 r1 => hb σ B1 H1 (s.go g1) _ fun w B2 H2 g2 r2 =>
    k v w B2 H2 Q g2.s (R.mono g2.b r1) r2 fun u B3 H3 g3 r3 => q u B3 H3 ((g1.trans g2).trans g3) r3
theorem T.cmp {op : CmpOp} {r : R2} {k : Bool} (ho : OpR X (compareOp op) r) (hm : behindInMarks op b = false) (ha : E X O G a R x) (hb : E X O G b S y)
    (h : ∀ v w B H (Q : VK), Same B H → R.r B v x → S.r B w y → (∀ B' H', Go B H B' H' → Q (.bl k) H') → r v w H Q) : T X O G (.Compare a [op] [b] pos) k :=
  T.of (pt_cmpR ho semPE semPE hm) fun σ B H s Q q => ha σ B H s _ fun v B1 H1 g1 r1 => hb σ B1 H1 (s.go g1) _ fun w B2 H2 g2 r2 =>
    h v w B2 H2 _ g2.s (R.mono g2.b r1) r2 fun B3 H3 g3 => ⟨k, rfl, q B3 H3 ((g1.trans g2).trans g3)⟩
/-- the six upon whole numbers -/
inductive OpI : CmpOp → (Int → Int → Bool) → Prop
  | lt : OpI .Lt fun i j => decide (i < j)
  | le : OpI .LtE fun i j => decide (i ≤ j)
  | gt : OpI .Gt fun i j => decide (j < i)
  | ge : OpI .GtE fun i j => decide (j ≤ i)
  | eq : OpI .Eq fun i j => decide (i = j)
  | ne : OpI .NotEq fun i j => !decide (i = j)
theorem dec_i {i j : Int} : decide (V.int i = V.int j) = decide (i = j) := by
  by_cases h : i = j
  · subst h; simp
  · rw [decide_eq_false h, decide_eq_false (fun q => h (V.int.inj q))]
theorem OpI.op {op : CmpOp} {f : Int → Int → Bool} (h : OpI op f) : ∃ r, OpR X (compareOp op) r ∧ ∀ v w B H (Q : VK), Same B H → intR.r B v i → intR.r B w j → Q (.bl (f i j)) H → r v w H Q := by
  cases h with
  | lt => exact ⟨_, op_lt, fun v w B H Q s r1 r2 q => ⟨i, j, r1, r2, q⟩⟩
  | le => exact ⟨_, op_le, fun v w B H Q s r1 r2 q => ⟨i, j, r1, r2, q⟩⟩
  | gt => exact ⟨_, op_gt, fun v w B H Q s r1 r2 q => ⟨i, j, r1, r2, q⟩⟩
  | ge => exact ⟨_, op_ge, fun v w B H Q s r1 r2 q => ⟨i, j, r1, r2, q⟩⟩
  | eq =>
    refine ⟨_, op_eq, fun v w B H Q s r1 r2 q => ?_⟩
    cases r1; cases r2
    exact ⟨rfl, by rw [dec_i]; exact q⟩
  | ne =>
    refine ⟨_, op_ne, fun v w B H Q s r1 r2 q => ?_⟩
    cases r1; cases r2
    exact ⟨rfl, by rw [dec_i]; exact q⟩
theorem OpI.mark {op : CmpOp} {f : Int → Int → Bool} (h : OpI op f) (b : Expr) : behindInMarks op b = false := by
  cases h <;> exact nomark b
theorem E.cmpI {op : CmpOp} {f : Int → Int → Bool} (h : OpI op f) (ha : E X O G a intR i) (hb : E X O G b intR j) : E X O G (.Compare a [op] [b] pos) blR (f i j) := by
  obtain ⟨r, ho, hr⟩ := h.op (X := X) (i := i) (j := j)
  exact E.cmp ho (h.mark b) ha hb fun v w B H Q s r1 r2 q => hr v w B H Q s r1 r2 (q _ B H (.refl s) rfl)
theorem T.cmpI {op : CmpOp} {f : Int → Int → Bool} (h : OpI op f) (ha : E X O G a intR i) (hb : E X O G b intR j) : T X O G (.Compare a [op] [b] pos) (f i j) := by
  obtain ⟨r, ho, hr⟩ := h.op (X := X) (i := i) (j := j)
  exact T.cmp ho (h.mark b) ha hb fun v w B H Q s r1 r2 q => hr v w B H Q s r1 r2 (q B H (.refl s))
/-- a op b op c -/
theorem T.chain {op op' : CmpOp} {f f' : Int → Int → Bool} {n : Int} (h : OpI op f) (h' : OpI op' f') (ha : E X O G a intR i) (hb : E X O G b intR j) (hc : E X O G c intR n)
    (hm : lastMarks [op, op'] [b, c] = false := by with_unfolding_all rfl) : T X O G (.Compare a [op, op'] [b, c] pos) (f i j && f' j n) := by
  obtain ⟨r, ho, hr⟩ := h.op (X := X) (i := i) (j := j)
  obtain ⟨r', ho', hr'⟩ := h'.op (X := X) (i := j) (j := n)
  refine T.of (pt_chain ho ho' semPE semPE semPE hm) fun σ B H s Q q => ha σ B H s _ fun v B1 H1 g1 r1 => hb σ B1 H1 (s.go g1) _ fun w B2 H2 g2 r2 => ?_
  refine hr v w B2 H2 _ g2.s (intR.mono g2.b r1) r2 ⟨f i j, rfl, ?_⟩
  cases hk : f i j with
  | true =>
    refine iteT (hc σ B2 H2 (s.go (g1.trans g2)) _ fun u B3 H3 g3 r3 => hr' w u B3 H3 _ g3.s (intR.mono g3.b r2) r3 ⟨_, rfl, ?_⟩)
    have z := q B3 H3 ((g1.trans g2).trans g3)
    rw [hk, Bool.true_and] at z
    exact z
  | false =>
    refine iteF ⟨false, rfl, ?_⟩
    have z := q B2 H2 (g1.trans g2)
    rw [hk, Bool.false_and] at z
    exact z
/-- is None, is not None -/
theorem T.isN {op : Option α} {j : Nat} (ha : E X O G a (optR R) op) (hR : ∀ B v x, R.r B v x → v ≠ .non) : T X O G (.Compare a [.Is] [.Constant .none j p1] pos) op.isNone :=
  T.of (pt_cmp (pc_isN semPE)) fun σ B H s Q q => ha σ B H s _ fun v B1 H1 g1 r1 => by
    refine ⟨_, rfl, ?_⟩
    cases op with
    | none =>
      have e : v = .non := r1
      rw [e]
      exact q B1 H1 g1
    | some w =>
      have e := hR _ _ _ (show R.r B1 v w from r1)
      rw [decide_eq_false e]
      exact q B1 H1 g1

/-! ### and, or, not -/
theorem T.val {k : Bool} (h : E X O G e blR k) (he : ∀ whole, isTrue e X.env whole = (do let v ← whole; standAt e.pos; holding [v] (truthy v)) := by intro _; rfl) : T X O G e k :=
  T.of (pt_val semPE he) fun σ B H s Q q => h σ B H s _ fun v B1 H1 g1 r1 => ⟨k, r1, q B1 H1 g1⟩
theorem TW.t {k : Bool} (h : TW X O G e k) : T X O G e k := fun σ B H s Q q pins sh I => h σ B H s Q q _ pins sh I
theorem TW.and1 {k : Bool} (h : T X O G a k) : TW X O G (.BoolOp .And [a] pos) k := TW.of (pw_and1 semPT) fun σ B H s Q q => h σ B H s _ q
theorem TW.or1 {k : Bool} (h : T X O G a k) : TW X O G (.BoolOp .Or [a] pos) k := TW.of (pw_or1 semPT) fun σ B H s Q q => h σ B H s _ q
theorem TW.and {k l : Bool} (h : T X O G a k) (h' : k = true → TW X O G (.BoolOp .And (b :: es) pos) l) : TW X O G (.BoolOp .And (a :: b :: es) pos) (k && l) :=
  TW.of (pw_and semPT semPW) fun σ B H s Q q => h σ B H s _ fun B1 H1 g1 => by
    cases k with
    | true => exact iteT (h' rfl σ B1 H1 (s.go g1) _ fun B2 H2 g2 => q B2 H2 (g1.trans g2))
    | false => exact iteF (q B1 H1 g1)
theorem TW.or {k l : Bool} (h : T X O G a k) (h' : k = false → TW X O G (.BoolOp .Or (b :: es) pos) l) : TW X O G (.BoolOp .Or (a :: b :: es) pos) (k || l) :=
  TW.of (pw_or semPT semPW) fun σ B H s Q q => h σ B H s _ fun B1 H1 g1 => by
    cases k with
    | false => exact iteF (h' rfl σ B1 H1 (s.go g1) _ fun B2 H2 g2 => q B2 H2 (g1.trans g2))
    | true => exact iteT (q B1 H1 g1)
theorem T.not {k : Bool} (h : T X O G a k) : T X O G (.UnaryOp .Not a pos) (!k) := T.of (pt_not semPT) fun σ B H s Q q => h σ B H s _ q
theorem E.not {k : Bool} (h : E X O G a blR k) : E X O G (.UnaryOp .Not a pos) blR (!k) := E.of (pe_not semPE) fun σ B H s Q q => h σ B H s _ fun v B1 H1 g1 r1 => ⟨k, r1, q _ B1 H1 g1 rfl⟩
theorem E.one {op : BoolOp} (h : E X O G a R x) : E X O G (.BoolOp op [a] pos) R x := E.of (pe_one semPE) fun σ B H s Q q => h σ B H s _ q
theorem E.and {k l : Bool} (h : E X O G a blR k) (h' : k = true → E X O G (.BoolOp .And (b :: es) pos) blR l) : E X O G (.BoolOp .And (a :: b :: es) pos) blR (k && l) :=
  E.of (pe_and semPE semPE) fun σ B H s Q q => h σ B H s _ fun v B1 H1 g1 r1 => ⟨k, r1, by
    cases k with
    | true => exact iteT (h' rfl σ B1 H1 (s.go g1) _ fun u B2 H2 g2 r2 => q u B2 H2 (g1.trans g2) r2)
    | false => exact iteF (q _ B1 H1 g1 rfl)⟩
theorem E.or {k l : Bool} (h : E X O G a blR k) (h' : k = false → E X O G (.BoolOp .Or (b :: es) pos) blR l) : E X O G (.BoolOp .Or (a :: b :: es) pos) blR (k || l) :=
  E.of (pe_or semPE semPE) fun σ B H s Q q => h σ B H s _ fun v B1 H1 g1 r1 => ⟨k, r1, by
    cases k with
    | false => exact iteF (h' rfl σ B1 H1 (s.go g1) _ fun u B2 H2 g2 r2 => q u B2 H2 (g1.trans g2) r2)
    | true => exact iteT (q _ B1 H1 g1 rfl)⟩

/-! ### arguments -/
/-- no star -/
def NS (e : Expr) : Prop := ∀ (es : List Expr) (env : Env), starEach (e :: es) env = (false, eval e env) :: starEach es env
theorem EA.of {Rs : Rps α} {t : TA} (h : PA X es t) (k : ∀ (σ : L2.St) (B H : Hp), Sat O G σ B H → ∀ Q : List V → Hp → Prop, (∀ v B' H', Go B H B' H' → Rs.r B' v x → Q v H') → t σ H Q) : EA X O G es Rs x :=
  fun σ B H s Q q pos pins sh I => h.run pos pins sh σ H Q I (k σ B H s Q q)
theorem EA.one (ha : E X O G a R x) (na : NS a := by exact fun _ _ => rfl) : EA X O G [a] (a1 R) x := by
  refine EA.of (pa_cons semPE pa_nil (na _ _)) fun σ B H s Q q => ?_
  exact ha σ B H s _ fun v B1 H1 g1 r1 => q _ B1 H1 g1 ⟨v, rfl, r1⟩
theorem EA.two (ha : E X O G a R x) (hb : E X O G b S y) (na : NS a := by exact fun _ _ => rfl) (nb : NS b := by exact fun _ _ => rfl) : EA X O G [a, b] (a2 R S) (x, y) := by
  refine EA.of (pa_cons semPE (pa_cons semPE pa_nil (nb _ _)) (na _ _)) fun σ B H s Q q => ?_
  exact ha σ B H s _ fun v B1 H1 g1 r1 => hb σ B1 H1 (s.go g1) _ fun w B2 H2 g2 r2 => q _ B2 H2 (g1.trans g2) ⟨v, w, rfl, R.mono g2.b r1, r2⟩
theorem EA.three (ha : E X O G a R x) (hb : E X O G b S y) (hc : E X O G c U z) (na : NS a := by exact fun _ _ => rfl) (nb : NS b := by exact fun _ _ => rfl) (nc : NS c := by exact fun _ _ => rfl) : EA X O G [a, b, c] (a3 R S U) (x, y, z) := by
  refine EA.of (pa_cons semPE (pa_cons semPE (pa_cons semPE pa_nil (nc _ _)) (nb _ _)) (na _ _)) fun σ B H s Q q => ?_
  exact ha σ B H s _ fun v B1 H1 g1 r1 => hb σ B1 H1 (s.go g1) _ fun w B2 H2 g2 r2 => hc σ B2 H2 (s.go (g1.trans g2)) _ fun u B3 H3 g3 r3 =>
    q _ B3 H3 ((g1.trans g2).trans g3) ⟨v, w, u, rfl, R.mono (g2.trans g3).b r1, S.mono g3.b r2, r3⟩
/-- items of one kind -/
inductive Es (X : Cx) (O : Ob B0 H0) (G : En) (R : Rp α) : List Expr → List α → Prop
  | nil : Es X O G R [] []
  | cons {e : Expr} {es : List Expr} {x : α} {xs : List α} : E X O G e R x → Es X O G R es xs → (ns : NS e := by exact fun _ _ => rfl) → Es X O G R (e :: es) (x :: xs)
theorem Es.len {xs : List α} (h : Es X O G R es xs) : es.length = xs.length := by
  induction h with
  | nil => rfl
  | cons _ _ _ ih => rw [List.length_cons, List.length_cons, ih]
theorem Es.pa {xs : List α} (h : Es X O G R es xs) : ∀ (σ : L2.St) (B H : Hp), Sat O G σ B H → ∀ Q : List V → Hp → Prop,
    (∀ v B' H', Go B H B' H' → Paired (R.r B') v xs → Q v H') → semA X es σ H Q := by
  induction h with
  | nil => exact fun σ B H s Q q pos pins sh I => (pa_nil (X := X)).run pos pins sh σ H Q I (q [] B H s.refl .nil)
  | cons h1 h2 ns ih =>
    intro σ B H s Q q pos pins sh I
    refine (pa_cons (X := X) semPE semPA (ns _ _)).run pos pins sh σ H Q I ?_
    exact h1 σ B H s _ fun v B1 H1 g1 r1 => ih σ B1 H1 (s.go g1) _ fun w B2 H2 g2 r2 => q _ B2 H2 (g1.trans g2) (.cons (R.mono g2.b r1) r2)

/-! ### tuples, lists -/
theorem E.pair {k : Nat} (ha : E X O G a R x) (hb : E X O G b S y) (na : NS a := by exact fun _ _ => rfl) (nb : NS b := by exact fun _ _ => rfl) : E X O G (.Tuple [a, b] k pos) (pairR R S) (x, y) :=
  E.of (pe_tup (pa_cons semPE (pa_cons semPE pa_nil (nb _ _)) (na _ _))) fun σ B H s Q q => ha σ B H s _ fun v B1 H1 g1 r1 => hb σ B1 H1 (s.go g1) _ fun w B2 H2 g2 r2 =>
    ⟨by show 2 ≤ sizeLine; decide, fun p hp => q _ _ _ ((g1.trans g2).trans (Go.new g2.s hp)) ⟨p, v, w, rfl, upd_same, R.mono (g2.trans (Go.new g2.s hp)).b r1, S.mono (Go.new g2.s hp).b r2⟩⟩
theorem E.trio {k : Nat} (ha : E X O G a R x) (hb : E X O G b S y) (hc : E X O G c U z) (na : NS a := by exact fun _ _ => rfl) (nb : NS b := by exact fun _ _ => rfl) (nc : NS c := by exact fun _ _ => rfl) : E X O G (.Tuple [a, b, c] k pos) (trioR R S U) (x, y, z) :=
  E.of (pe_tup (pa_cons semPE (pa_cons semPE (pa_cons semPE pa_nil (nc _ _)) (nb _ _)) (na _ _))) fun σ B H s Q q => ha σ B H s _ fun v B1 H1 g1 r1 => hb σ B1 H1 (s.go g1) _ fun w B2 H2 g2 r2 => hc σ B2 H2 (s.go (g1.trans g2)) _ fun u B3 H3 g3 r3 =>
    ⟨by show 3 ≤ sizeLine; decide, fun p hp => q _ _ _ (((g1.trans g2).trans g3).trans (Go.new g3.s hp)) ⟨p, v, w, u, rfl, upd_same, R.mono ((g2.trans g3).trans (Go.new g3.s hp)).b r1, S.mono (g3.trans (Go.new g3.s hp)).b r2, U.mono (Go.new g3.s hp).b r3⟩⟩
theorem E.fr {k : Nat} {q : Rat} (ha : E X O G a intR i) (hb : E X O G b intR j) (h1 : i = q.num) (h2 : j = (q.den : Int)) (na : NS a := by exact fun _ _ => rfl) (nb : NS b := by exact fun _ _ => rfl) : E X O G (.Tuple [a, b] k pos) (frR) q :=
  (E.pair ha hb na nb).conv fun B v r => by subst h1 h2; exact r
theorem E.tup {k : Nat} {xs : List α} (h : Es X O G R es xs)  (hl : es.length ≤ 1000) : E X O G (.Tuple es k pos) (tupR R) xs :=
  E.of (pe_tup semPA) fun σ B H s Q q => h.pa σ B H s _ fun v B1 H1 g1 r1 =>
    ⟨by
      have e1 := prd_len r1
      have e2 := h.len
      exact Nat.le_of_lt (small1000 (by omega)), fun p hp => q _ _ _ (g1.trans (Go.new g1.s hp)) ⟨p, v, rfl, upd_same, prd_mono (Go.new g1.s hp).b r1⟩⟩
theorem EL.lst {xs : List α} (h : Es X O G R es xs)  (hl : es.length ≤ 1000) : EL X O G (.List es pos) R xs :=
  EL.of (pe_lst semPA) fun σ B H s Q q => h.pa σ B H s _ fun v B1 H1 g1 r1 =>
    ⟨by
      have e1 := prd_len r1
      have e2 := h.len
      exact Nat.le_of_lt (small1000 (by omega)), fun p hp => q p v _ _ (g1.trans (Go.ltr g1.s hp)) (g1.h.free hp) (g1.s.free hp) upd_same r1⟩
/-- a new list, closed -/
theorem EL.cl {xs : List α} (h : EL X O G e R xs) : E X O G e (lstR R) xs := fun σ B H s Q q => h σ B H s Q fun p vs B' H' g h0 hb hp r =>
  q _ _ _ (g.frz h0 hb hp) ⟨p, vs, rfl, upd_same, prd_mono (same_new hb) r⟩
theorem EL.eq {xs ys : List α} (h : EL X O G e R xs) (q : xs = ys) : EL X O G e R ys := q ▸ h
theorem E.lr {xs : List α} (h : E X O G e (lstR R) xs) : LR X O G e R xs := fun σ B H s Q q => h σ B H s Q fun v B' H' g ⟨p, vs, e1, h1, h2⟩ => by
  subst e1
  exact q p B' H' g fun B1 H1 sm o => ⟨vs, (O.go o).s _ _ (sm _ _ h1), prd_mono sm h2⟩
theorem mo_lr {p : Addr} {xs : List α} (i : Nat) {n : Str} (hg : G[i]? = some (some ⟨adrR, p⟩)) (hN : X.N[i]? = some n := by rfl) (hv : Vis X.env.scope n := by first | exact Or.inl rfl | exact Or.inr (Or.inl rfl) | exact Or.inr (Or.inr rfl)) (hd : (n == ("__debug__" : Str)) = false := by decide)
    (hcd : (n == ("__classdict__" : Str)) = false := by decide) : LR X (mo B0 H0 p R xs) G (.Name n pos) R xs := fun σ B H s Q q =>
  E.var (O := mo B0 H0 p R xs) (R := adrR) (x := p) i hg hN hv hd hcd σ B H s Q fun v B' H' g r => by
    have e : v = .ref p := r
    subst e
    exact q p B' H' g fun B1 H1 _ o => let ⟨_, _, _, vs, h1, h2⟩ := o; ⟨vs, h1, h2⟩
theorem LR.eq {xs ys : List α} (h : LR X O G e R xs) (q : xs = ys) : LR X O G e R ys := q ▸ h

theorem prd_at {F : V → α → Prop} {vs : List V} {xs : List α} (h : Paired F vs xs) {x : α} (hx : atI xs i = some x) : ∃ v, atI vs i = some v ∧ F v x := by
  unfold atI at hx ⊢
  rw [prd_len h]
  cases e : ixN xs.length i with
  | none => rw [e] at hx; cases hx
  | some j =>
    rw [e] at hx
    exact prd_get h (show xs[j]? = some x from hx)
theorem E.ixT {xs : List α} (ha : E X O G a (tupR R) xs) (hb : E X O G b intR i) (hx : atI xs i = some x) (hs : PlainIx b := by exact fun _ _ => rfl) : E X O G (.Subscript a b pos) R x :=
  E.of (pe_ix ix_tup semPE semPE hs) fun σ B H s Q q => ha σ B H s _ fun v B1 H1 g1 ⟨p, vs, e1, h1, h2⟩ => hb σ B1 H1 (s.go g1) _ fun w B2 H2 g2 r2 => by
    obtain ⟨u, hu, ru⟩ := prd_at (prd_mono g2.b h2) hx
    exact ⟨p, vs, i, u, e1, r2, SqT.of (g2.s _ _ (g2.b _ _ h1)), hu, q u B2 H2 (g1.trans g2) ru⟩
theorem E.ixL {xs : List α} (ha : LR X O G a R xs) (hb : E X O G b intR i) (hx : atI xs i = some x) (hs : PlainIx b := by exact fun _ _ => rfl) : E X O G (.Subscript a b pos) R x :=
  E.of (pe_ix ix_list semPE semPE hs) fun σ B H s Q q => ha σ B H s _ fun p B1 H1 g1 k => hb σ B1 H1 (s.go g1) _ fun w B2 H2 g2 r2 => by
    obtain ⟨vs, h1, h2⟩ := k B2 H2 g2.b (s.go (g1.trans g2)).o
    obtain ⟨u, hu, ru⟩ := prd_at h2 hx
    exact ⟨p, vs, i, u, rfl, r2, SqL.of h1, hu, q u B2 H2 (g1.trans g2) ru⟩
theorem E.ixP0 {q : α × β} (ha : E X O G a (pairR R S) q) {j : Nat} : E X O G (.Subscript a (.Constant (.int 0) j p1) pos) R q.1 :=
  E.of (pe_ix ix_tup semPE pe_int (fun _ _ => rfl)) fun σ B H s Q k => ha σ B H s _ fun v B1 H1 g1 ⟨p, u, w, e1, h1, h2, h3⟩ => ⟨p, [u, w], 0, u, e1, rfl, SqT.of (g1.s _ _ h1), rfl, k u B1 H1 g1 h2⟩
theorem E.ixP1 {q : α × β} (ha : E X O G a (pairR R S) q) {j : Nat} : E X O G (.Subscript a (.Constant (.int 1) j p1) pos) S q.2 :=
  E.of (pe_ix ix_tup semPE pe_int (fun _ _ => rfl)) fun σ B H s Q k => ha σ B H s _ fun v B1 H1 g1 ⟨p, u, w, e1, h1, h2, h3⟩ => ⟨p, [u, w], 1, w, e1, rfl, SqT.of (g1.s _ _ h1), rfl, k w B1 H1 g1 h3⟩
theorem E.frP {q : Rat} (ha : E X O G a (frR) q) : E X O G a (pairR intR intR) (q.num, (q.den : Int)) := ha.conv fun _ _ r => r
theorem E.ix0 {q : Rat} (ha : E X O G a (frR) q) {j : Nat} : E X O G (.Subscript a (.Constant (.int 0) j p1) pos) intR q.num := E.ixP0 ha.frP
theorem E.ix1 {q : Rat} (ha : E X O G a (frR) q) {j : Nat} : E X O G (.Subscript a (.Constant (.int 1) j p1) pos) intR (q.den : Int) := E.ixP1 ha.frP

/-! ### slices -/
def cutA (xs : List α) (lo hi : Option Int) : List α := (xs.drop (HT.sIx xs.length 0 lo)).take (HT.sIx xs.length xs.length hi - HT.sIx xs.length 0 lo)
theorem prd_cut {F : V → α → Prop} {vs : List V} {xs : List α} (h : Paired F vs xs) (lo hi : Option Int) : Paired F (cutV vs lo hi) (cutA xs lo hi) := by
  unfold cutV cutA
  rw [prd_len h]
  exact prd_take _ (prd_drop _ h)
/-- a part of a slice -/
def EO (X : Cx) (O : Ob B0 H0) (G : En) (e : Option Expr) (o : Option Int) : Prop :=
  ∃ t : TO, PO X e t ∧ ∀ (σ : L2.St) (B H : Hp), Sat O G σ B H → ∀ Q : Option Int → Hp → Prop, (∀ B' H', Go B H B' H' → Q o H') → t σ H Q
theorem EO.no : EO X O G none none := ⟨_, po_none, fun σ B H s Q q => q B H s.refl⟩
theorem EO.so (h : E X O G e intR i) : EO X O G (some e) (some i) := ⟨_, po_some semPE, fun σ B H s Q q => h σ B H s _ fun v B1 H1 g1 r1 => ⟨i, r1, q B1 H1 g1⟩⟩
theorem EL.sl {xs : List α} {lo hi : Option Expr} {l h : Option Int} (ha : LR X O G a R xs) (hl : EO X O G lo l) (hh : EO X O G hi h) : EL X O G (.Subscript a (.Slice lo hi none p2) pos) R (cutA xs l h) := by
  obtain ⟨tl, pl, kl⟩ := hl
  obtain ⟨th, ph, kh⟩ := hh
  refine EL.of (pe_slice sl_list semPE pl ph) fun σ B H s Q q => ha σ B H s _ fun p B1 H1 g1 k => kl σ B1 H1 (s.go g1) _ fun B2 H2 g2 => kh σ B2 H2 (s.go (g1.trans g2)) _ fun B3 H3 g3 => ?_
  obtain ⟨vs, h1, h2⟩ := k B3 H3 (g2.trans g3).b (s.go ((g1.trans g2).trans g3)).o
  exact ⟨p, vs, rfl, SqL.of h1, fun c hc => q c _ _ _ (((g1.trans g2).trans g3).trans (Go.ltr g3.s hc)) (((g1.trans g2).trans g3).h.free hc) (g3.s.free hc) upd_same (prd_cut h2 _ _)⟩
end
end Tr

set_option maxHeartbeats 4000000
namespace Tr
open PySem L2

section
variable {B0 H0 : Hp} {α β γ δ : Type} {X : Cx} {O : Ob B0 H0} {G : En} {e a b c : Expr} {es : List Expr} {R : Rp α} {S : Rp β} {U : Rp γ} {x : α} {y : β} {z : γ} {pos p0 p1 p2 : Pos} {i j : Int}

/-! ### a def that is known -/
/-- a promise: from the arguments' meanings (under pre) the answer's meaning -/
def Pure (Ra : Rps α) (R : Rp β) (pre : α → Prop) (f : α → β) : Sp := fun vs H Q _ => ∃ (B : Hp) (a : α), Same B H ∧ Ra.r B vs a ∧ pre a ∧ ∀ v B' H', Go B H B' H' → R.r B' v (f a) → Q v H'
structure Df (P : Program) (w : World) (K : PySem.W.Frag) (mg : Str → Option Value) (base : Heap) (k : Nat) (x : Str) (ps : List Str) (sp : Sp) : Prop where
  h : ∃ (f : Addr) (fd : FuncData), FnOk P w K mg base CX0 k f fd ps sp ∧ mg x = some (.ref f) ∧ PySem.W.keepIn K (.ref f) = true ∧ Binds K fd ps []
theorem E.call {k : Nat} {n : Str} {ps : List Str} {Ra : Rps α} {pre : α → Prop} {f : α → β} (D : Df X.prog X.w X.K X.mg X.base k n ps (Pure Ra S pre f)) (hr : Room k X.A) (ha : EA X O G (e :: es) Ra x) (hp : pre x)
    (hg : Gl X n := by rfl) (ns : NS e := by exact fun _ _ => rfl) (hdb : (n == ("__debug__" : Str)) = false := by decide) (hpl : (backTo pos (starEach es X.env)).any (·.1) = false := by rfl) :
    E X O G (.Call (.Name n p0) (e :: es) [] pos) S (f x) := by
  obtain ⟨fa, fd, F, hm, hk, hb⟩ := D.h
  refine E.of (pe_call (E := E0) F hr hg hm hk hb .nil pass0 semPA hdb (ns _ _) hpl) fun σ B H s Q q => ha σ B H s _ fun vs B1 H1 g1 r1 => ?_
  rw [List.append_nil]
  exact ⟨B1, x, g1.s, r1, hp, fun v B2 H2 g2 r2 => q v B2 H2 (g1.trans g2) r2⟩

/-- the same, told argument by argument -/
def Pur1 (R : Rp α) (S : Rp β) (pre : α → Prop) (f : α → β) : Sp := Pure (a1 R) S pre f
def Pur2 (R : Rp α) (U : Rp γ) (S : Rp β) (pre : α → γ → Prop) (f : α → γ → β) : Sp := Pure (a2 R U) S (fun a => pre a.1 a.2) (fun a => f a.1 a.2)
def Pur3 (R : Rp α) (U : Rp γ) (W : Rp δ) (S : Rp β) (pre : α → γ → δ → Prop) (f : α → γ → δ → β) : Sp := Pure (a3 R U W) S (fun a => pre a.1 a.2.1 a.2.2) (fun a => f a.1 a.2.1 a.2.2)
theorem E.call1 {k : Nat} {n : Str} {ps : List Str} {pre : α → Prop} {f : α → β} (D : Df X.prog X.w X.K X.mg X.base k n ps (Pur1 R S pre f)) (hr : Room k X.A) (ha : EA X O G (e :: es) (a1 R) x) (hp : pre x)
    (hg : Gl X n := by rfl) (ns : NS e := by exact fun _ _ => rfl) (hdb : (n == ("__debug__" : Str)) = false := by decide) (hpl : (backTo pos (starEach es X.env)).any (·.1) = false := by rfl) :
    E X O G (.Call (.Name n p0) (e :: es) [] pos) S (f x) := E.call (f := f) (pre := pre) (Ra := a1 R) D hr ha hp hg ns hdb hpl
theorem E.call2 {k : Nat} {n : Str} {ps : List Str} {pre : α → γ → Prop} {f : α → γ → β} (D : Df X.prog X.w X.K X.mg X.base k n ps (Pur2 R U S pre f)) (hr : Room k X.A) (ha : EA X O G (e :: es) (a2 R U) (x, z)) (hp : pre x z)
    (hg : Gl X n := by rfl) (ns : NS e := by exact fun _ _ => rfl) (hdb : (n == ("__debug__" : Str)) = false := by decide) (hpl : (backTo pos (starEach es X.env)).any (·.1) = false := by rfl) :
    E X O G (.Call (.Name n p0) (e :: es) [] pos) S (f x z) := E.call (f := fun a => f a.1 a.2) (pre := fun a => pre a.1 a.2) (Ra := a2 R U) D hr ha hp hg ns hdb hpl
theorem E.call3 {k : Nat} {n : Str} {ps : List Str} {W : Rp δ} {u : δ} {pre : α → γ → δ → Prop} {f : α → γ → δ → β} (D : Df X.prog X.w X.K X.mg X.base k n ps (Pur3 R U W S pre f)) (hr : Room k X.A) (ha : EA X O G (e :: es) (a3 R U W) (x, z, u)) (hp : pre x z u)
    (hg : Gl X n := by rfl) (ns : NS e := by exact fun _ _ => rfl) (hdb : (n == ("__debug__" : Str)) = false := by decide) (hpl : (backTo pos (starEach es X.env)).any (·.1) = false := by rfl) :
    E X O G (.Call (.Name n p0) (e :: es) [] pos) S (f x z u) := E.call (f := fun a => f a.1 a.2.1 a.2.2) (pre := fun a => pre a.1 a.2.1 a.2.2) (Ra := a3 R U W) D hr ha hp hg ns hdb hpl

/-! ### built-ins -/
theorem E.blt {id : String} {r : List V → Hp → VK → Prop} {n : Str} {Ra : Rps α} (hc : CallR X (.builtin id) r) (ha : EA X O G (e :: es) Ra x)
    (k : ∀ vs B H (Q : VK), Same B H → Ra.r B vs x → (∀ v B' H', Go B H B' H' → S.r B' v y → Q v H') → r vs H Q) (hm : X.mg n = none) (hv : bootBuiltins n = some (.builtin id)) (hg : Gl X n := by rfl) (ns : NS e := by exact fun _ _ => rfl)
    (hn : n ≠ "__name__" := by decide) (hdb : (n == ("__debug__" : Str)) = false := by decide) (hpl : (backTo pos (starEach es X.env)).any (·.1) = false := by rfl) :
    E X O G (.Call (.Name n p0) (e :: es) [] pos) S y :=
  E.of (pe_callB hc hg hm hv semPA hn hdb (ns _ _) hpl) fun σ B H s Q q => ha σ B H s _ fun vs B1 H1 g1 r1 => k vs B1 H1 Q g1.s r1 fun v B2 H2 g2 r2 => q v B2 H2 (g1.trans g2) r2
theorem E.bty {id : String} {r : List V → Hp → VK → Prop} {n : Str} {Ra : Rps α} (hc : CallR X (.type id) r) (ha : EA X O G (e :: es) Ra x)
    (k : ∀ vs B H (Q : VK), Same B H → Ra.r B vs x → (∀ v B' H', Go B H B' H' → S.r B' v y → Q v H') → r vs H Q) (hm : X.mg n = none) (hv : bootBuiltins n = some (.type id)) (hg : Gl X n := by rfl) (ns : NS e := by exact fun _ _ => rfl)
    (hn : n ≠ "__name__" := by decide) (hdb : (n == ("__debug__" : Str)) = false := by decide) (hpl : (backTo pos (starEach es X.env)).any (·.1) = false := by rfl) :
    E X O G (.Call (.Name n p0) (e :: es) [] pos) S y :=
  E.of (pe_callTy hc hg hm hv semPA hn hdb (ns _ _) hpl) fun σ B H s Q q => ha σ B H s _ fun vs B1 H1 g1 r1 => k vs B1 H1 Q g1.s r1 fun v B2 H2 g2 r2 => q v B2 H2 (g1.trans g2) r2
theorem E.abs (ha : E X O G e intR i) (hm : X.mg "abs" = none) (hg : Gl X "abs" := by rfl) (ns : NS e := by exact fun _ _ => rfl) : E X O G (.Call (.Name "abs" p0) [e] [] pos) intR (i.natAbs : Int) :=
  E.blt call_abs (EA.one ha ns) (fun vs B H Q s ⟨u, h1, h2⟩ q => ⟨i, by rw [h1, h2], q _ B H (.refl s) (by show V.int _ = V.int _; congr 1; split <;> omega)⟩) hm (by decide +kernel) hg ns
theorem E.max2 (hc : X.calm = true) (ha : E X O G a intR i) (hb : E X O G b intR j) (hm : X.mg "max" = none) (hg : Gl X "max" := by rfl) (na : NS a := by exact fun _ _ => rfl) (nb : NS b := by exact fun _ _ => rfl) (hpl : (backTo pos (starEach [b] X.env)).any (·.1) = false := by rfl) : E X O G (.Call (.Name "max" p0) [a, b] [] pos) intR (Max.max i j) :=
  E.blt (call_max2 hc) (EA.two ha hb na nb) (fun vs B H Q s ⟨u, v, h1, h2, h3⟩ q => ⟨i, j, by rw [h1, h2, h3], q _ B H (.refl s) (by show V.int _ = V.int _; congr 1; split <;> omega)⟩) hm (by decide +kernel) hg na (by decide) (by decide) hpl
theorem E.intB {k : Bool} (ha : E X O G e blR k) (hm : X.mg "int" = none) (hg : Gl X "int" := by rfl) (ns : NS e := by exact fun _ _ => rfl) : E X O G (.Call (.Name "int" p0) [e] [] pos) intR (if k then 1 else 0) :=
  E.bty call_int1 (EA.one ha ns) (fun vs B H Q s ⟨u, h1, h2⟩ q => .inr ⟨k, by rw [h1, h2], q _ B H (.refl s) rfl⟩) hm (by decide +kernel) hg ns
theorem E.lenT {xs : List α} (ha : E X O G e (tupR R) xs) (hm : X.mg "len" = none) (hg : Gl X "len" := by rfl) (ns : NS e := by exact fun _ _ => rfl) : E X O G (.Call (.Name "len" p0) [e] [] pos) intR (xs.length : Int) :=
  E.blt call_len_seq (EA.one ha ns) (fun vs B H Q s ⟨u, h1, p, us, h2, h3, h4⟩ q => ⟨p, us, by rw [h1, h2], .inr (SqT.of (s _ _ h3)), by rw [prd_len h4]; exact q _ B H (.refl s) rfl⟩) hm PySem.boot_len hg ns
theorem pa_ns (ns : NS e) : PA X [e] (tCons (semE X e) tNil) := pa_cons semPE pa_nil (ns _ _)
theorem E.lenL {xs : List α} (ha : LR X O G e R xs) (hm : X.mg "len" = none) (hg : Gl X "len" := by rfl) (ns : NS e := by exact fun _ _ => rfl) : E X O G (.Call (.Name "len" p0) [e] [] pos) intR (xs.length : Int) :=
  E.of (pe_callB call_len_seq hg hm PySem.boot_len (pa_ns ns) (by decide) (by decide) (ns _ _) rfl) fun σ B H s Q q => ha σ B H s _ fun p B1 H1 g1 k => by
    obtain ⟨vs, h1, h2⟩ := k B1 H1 (.refl _) (s.go g1).o
    exact ⟨p, vs, rfl, .inl (SqL.of h1), by rw [prd_len h2]; exact q _ B1 H1 g1 rfl⟩
theorem E.lenS {ns' : List Int} (ha : E X O G e (scrR X.K) ns') (hm : X.mg "len" = none) (hg : Gl X "len" := by rfl) (ns : NS e := by exact fun _ _ => rfl) : E X O G (.Call (.Name "len" p0) [e] [] pos) intR (ns'.length : Int) :=
  E.blt call_len_seq (EA.one ha ns) (fun vs B H Q s ⟨u, h1, p, h2, h3⟩ q => ⟨p, _, by rw [h1, h2], .inl (s.seq h3), by rw [List.length_map]; exact q _ B H (.refl s) rfl⟩) hm PySem.boot_len hg ns
theorem E.ixS {ns : List Int} {n : Int} (ha : E X O G a (scrR X.K) ns) (hb : E X O G b intR i) (hx : atI ns i = some n) (hs : PlainIx b := by exact fun _ _ => rfl) : E X O G (.Subscript a b pos) intR n :=
  E.of (pe_ix ix_list semPE semPE hs) fun σ B H s Q q => ha σ B H s _ fun v B1 H1 g1 ⟨p, e1, h1⟩ => hb σ B1 H1 (s.go g1) _ fun w B2 H2 g2 r2 => by
    refine ⟨p, _, i, .int n, e1, r2, g2.h.seq (g1.s.seq h1), ?_, q _ B2 H2 (g1.trans g2) rfl⟩
    unfold atI at hx ⊢
    rw [List.length_map]
    cases h : ixN ns.length i with
    | none => rw [h] at hx; cases hx
    | some j =>
      rw [h] at hx
      have hj : ns[j]? = some n := hx
      show (ns.map V.int)[j]? = _
      rw [List.getElem?_map, hj]
      rfl
theorem prd_map {f : α → V} : ∀ {vs : List V} {xs : List α}, Paired (fun v x => v = f x) vs xs → vs = xs.map f
  | _, _, .nil => rfl
  | _, _, .cons r t => by rw [List.map_cons, r, prd_map t]
theorem prd_of_map {F : V → α → Prop} {f : α → V} (h : ∀ x, F (f x) x) : ∀ xs : List α, Paired F (xs.map f) xs
  | [] => .nil
  | x :: r => .cons (h x) (prd_of_map h r)
theorem E.sum {xs : List Int} (hc : X.calm = true) (ha : E X O G e (lstR intR) xs) (hm : X.mg "sum" = none) (hg : Gl X "sum" := by rfl) (ns : NS e := by exact fun _ _ => rfl) : E X O G (.Call (.Name "sum" p0) [e] [] pos) intR xs.sum :=
  E.blt (cr_sum hc) (EA.one ha ns) (fun vs B H Q s ⟨u, h1, p, us, h2, h3, h4⟩ q => ⟨p, xs, by rw [h1, h2], SqL.of (by rw [← prd_map h4]; exact s _ _ h3), q _ B H (.refl s) rfl⟩) hm (by decide +kernel) hg ns
theorem E.all {xs : List Bool} (hc : X.calm = true) (ha : E X O G e (lstR blR) xs) (hm : X.mg "all" = none) (hg : Gl X "all" := by rfl) (ns : NS e := by exact fun _ _ => rfl) : E X O G (.Call (.Name "all" p0) [e] [] pos) blR (xs.all id) :=
  E.blt (cr_all hc) (EA.one ha ns) (fun vs B H Q s ⟨u, h1, p, us, h2, h3, h4⟩ q => ⟨p, xs, by rw [h1, h2], SqL.of (by rw [← prd_map h4]; exact s _ _ h3), q _ B H (.refl s) rfl⟩) hm (by decide +kernel) hg ns
theorem E.any {xs : List Bool} (hc : X.calm = true) (ha : E X O G e (lstR blR) xs) (hm : X.mg "any" = none) (hg : Gl X "any" := by rfl) (ns : NS e := by exact fun _ _ => rfl) : E X O G (.Call (.Name "any" p0) [e] [] pos) blR (xs.any id) :=
  E.blt (cr_any hc) (EA.one ha ns) (fun vs B H Q s ⟨u, h1, p, us, h2, h3, h4⟩ q => ⟨p, xs, by rw [h1, h2], SqL.of (by rw [← prd_map h4]; exact s _ _ h3), q _ B H (.refl s) rfl⟩) hm (by decide +kernel) hg ns
theorem E.maxL {xs : List Int} (hc : X.calm = true) (ha : E X O G e (lstR intR) xs) (h0 : xs ≠ []) (hm : X.mg "max" = none) (hg : Gl X "max" := by rfl) (ns : NS e := by exact fun _ _ => rfl) : E X O G (.Call (.Name "max" p0) [e] [] pos) intR (Mi.top xs) :=
  E.blt (cr_max hc) (EA.one ha ns) (fun vs B H Q s ⟨u, h1, p, us, h2, h3, h4⟩ q => ⟨p, xs, by rw [h1, h2], SqL.of (by rw [← prd_map h4]; exact s _ _ h3), by
    cases xs with
    | nil => exact absurd rfl h0
    | cons x r => exact Nat.succ_pos _, fun m hm1 hm2 => by
      have t := Mi.top_mem h0
      have e1 : m = Mi.top xs := Int.le_antisymm (t.2 m hm1) (hm2 _ t.1)
      rw [e1]
      exact q _ B H (.refl s) rfl⟩) hm (by decide +kernel) hg ns
theorem E.tupL {xs : List α} (ha : E X O G e (lstR R) xs) (hm : X.mg "tuple" = none) (hg : Gl X "tuple" := by rfl) (ns : NS e := by exact fun _ _ => rfl) : E X O G (.Call (.Name "tuple" p0) [e] [] pos) (tupR R) xs :=
  E.bty call_tuple_of (EA.one ha ns) (fun vs B H Q s ⟨u, h1, p, us, h2, h3, h4⟩ q => ⟨p, us, by rw [h1, h2], .inl ⟨SqL.of (s _ _ h3), fun l hl => q _ _ _ (Go.new s hl) ⟨l, us, rfl, upd_same, prd_mono (Go.new s hl).b h4⟩⟩⟩) hm (by decide +kernel) hg ns
theorem E.tupLR {xs : List α} (ha : LR X O G e R xs) (hm : X.mg "tuple" = none) (hg : Gl X "tuple" := by rfl) (ns : NS e := by exact fun _ _ => rfl) : E X O G (.Call (.Name "tuple" p0) [e] [] pos) (tupR R) xs :=
  E.of (pe_callTy call_tuple_of hg hm (by decide +kernel) (pa_ns ns) (by decide) (by decide) (ns _ _) rfl) fun σ B H s Q q => ha σ B H s _ fun p B1 H1 g1 k => by
    obtain ⟨vs, h1, h2⟩ := k B1 H1 (.refl _) (s.go g1).o
    exact ⟨p, vs, rfl, .inl ⟨SqL.of h1, fun l hl => q _ _ _ (g1.trans (Go.new g1.s hl)) ⟨l, vs, rfl, upd_same, prd_mono (Go.new g1.s hl).b h2⟩⟩⟩
theorem EL.lstT {xs : List α} (ha : E X O G e (tupR R) xs) (hm : X.mg "list" = none) (hg : Gl X "list" := by rfl) (ns : NS e := by exact fun _ _ => rfl) : EL X O G (.Call (.Name "list" p0) [e] [] pos) R xs :=
  EL.of (pe_callTy call_list_of hg hm (by decide +kernel) (pa_ns ns) (by decide) (by decide) (ns _ _) rfl) fun σ B H s Q q => ha σ B H s _ fun v B1 H1 g1 ⟨p, us, h2, h3, h4⟩ => by
    exact ⟨p, us, by rw [h2], .inr (SqT.of (g1.s _ _ h3)), fun l hl => q l us _ _ (g1.trans (Go.ltr g1.s hl)) (g1.h.free hl) (g1.s.free hl) upd_same h4⟩
theorem EL.lstL {xs : List α} (ha : LR X O G e R xs) (hm : X.mg "list" = none) (hg : Gl X "list" := by rfl) (ns : NS e := by exact fun _ _ => rfl) : EL X O G (.Call (.Name "list" p0) [e] [] pos) R xs :=
  EL.of (pe_callTy call_list_of hg hm (by decide +kernel) (pa_ns ns) (by decide) (by decide) (ns _ _) rfl) fun σ B H s Q q => ha σ B H s _ fun p B1 H1 g1 k => by
    obtain ⟨us, h3, h4⟩ := k B1 H1 (.refl _) (s.go g1).o
    exact ⟨p, us, rfl, .inl (SqL.of h3), fun l hl => q l us _ _ (g1.trans (Go.ltr g1.s hl)) (g1.h.free hl) (g1.s.free hl) upd_same h4⟩

/-! ### put together -/
theorem EL.cat {xs ys : List α} (ha : LR X O G a R xs) (hb : LR X O G b R ys) (hl : xs.length + ys.length ≤ 10000) : EL X O G (.BinOp a .Add b pos) R (xs ++ ys) :=
  EL.of (pe_op op_cat semPE semPE) fun σ B H s Q q => ha σ B H s _ fun p B1 H1 g1 k1 => hb σ B1 H1 (s.go g1) _ fun p' B2 H2 g2 k2 => by
    obtain ⟨us, h1, h2⟩ := k1 B2 H2 g2.b (s.go (g1.trans g2)).o
    obtain ⟨vs, h3, h4⟩ := k2 B2 H2 (.refl _) (s.go (g1.trans g2)).o
    exact ⟨p, p', us, vs, rfl, rfl, h1, h3, by rw [prd_len h2, prd_len h4]; exact Nat.le_trans hl (by decide), fun l hl => q l _ _ _ ((g1.trans g2).trans (Go.ltr g2.s hl)) ((g1.trans g2).h.free hl) (g2.s.free hl) upd_same (prd_app h2 h4)⟩
theorem EL.lrx {xs : List α} (h : EL X O G e R xs) : LR X O G e R xs := h.cl.lr
theorem E.catT {xs ys : List α} (ha : E X O G a (tupR R) xs) (hb : E X O G b (tupR R) ys) (hl : xs.length + ys.length ≤ 10000) : E X O G (.BinOp a .Add b pos) (tupR R) (xs ++ ys) :=
  E.op op_catA ha hb fun v w B H Q s ⟨p, us, e1, h1, h2⟩ ⟨p', vs, e2, h3, h4⟩ q => by
    refine ⟨p, p', us, vs, e1, e2, SqT.of (s _ _ h1), SqT.of (s _ _ h3), by rw [prd_len h2, prd_len h4]; exact Nat.le_trans hl (by decide), fun z => ?_, fun _ z => ?_, fun _ _ l hl => ?_⟩
    · subst z
      cases h2
      exact q _ B H (.refl s) ⟨p', vs, rfl, h3, h4⟩
    · subst z
      cases h4
      rw [List.append_nil] at q
      exact q _ B H (.refl s) ⟨p, us, rfl, h1, h2⟩
    · exact q _ _ _ (Go.new s hl) ⟨l, _, rfl, upd_same, prd_mono (Go.new s hl).b (prd_app h2 h4)⟩
theorem EL.rep {xs : List α} (ha : EL X O G a R xs) (hb : E X O G b intR i) (h0 : 0 ≤ i) (h1 : i ≤ 1000) (hl : xs.length ≤ 1000) : EL X O G (.BinOp a .Mult b pos) R (List.replicate i.toNat xs).flatten :=
  EL.of (pe_op op_rep semPE semPE) fun σ B H s Q q => ha σ B H s _ fun p vs B1 H1 g1 f1 f2 hp r => hb σ B1 H1 (s.go g1) _ fun w B2 H2 g2 r2 => by
    refine ⟨p, i, vs, rfl, r2, g2.h _ _ hp, by omega, by omega, ?_, fun l hl => q l _ _ _ ((g1.trans g2).trans (Go.ltr g2.s hl)) ((g1.trans g2).h.free hl) (g2.s.free hl) upd_same (prd_flat _ (prd_mono g2.b r))⟩
    rw [prd_len r]
    exact Nat.le_trans (Nat.mul_le_mul hl (show i.toNat ≤ 1000 by omega)) (by decide)
theorem E.slT {xs : List α} {lo hi : Option Expr} {l h : Option Int} (ha : E X O G a (tupR R) xs) (hl : EO X O G lo l) (hh : EO X O G hi h) : E X O G (.Subscript a (.Slice lo hi none p2) pos) (tupR R) (cutA xs l h) := by
  obtain ⟨tl, pl, kl⟩ := hl
  obtain ⟨th, ph, kh⟩ := hh
  refine E.of (pe_slice sl_tupA semPE pl ph) fun σ B H s Q q => ha σ B H s _ fun v B1 H1 g1 ⟨p, vs, e1, h1, h2⟩ => kl σ B1 H1 (s.go g1) _ fun B2 H2 g2 => kh σ B2 H2 (s.go (g1.trans g2)) _ fun B3 H3 g3 => ?_
  have g := (g1.trans g2).trans g3
  have s3 := (g2.trans g3).b
  refine ⟨p, vs, e1, SqT.of (g3.s _ _ (s3 _ _ h1)), fun z => ?_, fun z c hc => ?_⟩
  · refine q _ B3 H3 g ⟨p, vs, rfl, s3 _ _ h1, ?_⟩
    unfold cutA
    rw [prd_len h2] at z
    rw [z.1, z.2, List.drop_zero, Nat.sub_zero, List.take_length]
    exact prd_mono s3 h2
  · exact q _ _ _ (g.trans (Go.new g3.s hc)) ⟨c, _, rfl, upd_same, prd_mono (Go.new g3.s hc).b (prd_cut (prd_mono s3 h2) _ _)⟩
end
end Tr

set_option maxHeartbeats 4000000
namespace Tr
open PySem L2 Mi

def semI (X : Cx) (tg iter : Expr) : TI := fun σ H R => ∀ (pins : List (Addr × Obj)) (s : Shared), Inv X pins σ H s → wpAny (model X.prog X.w) X.A (eval iter X.env) (fun v s1 => wpAny (model X.prog X.w) X.A (pyIter v) (PIE X pins σ tg R) X.xe s1) X.xe s
theorem semPI {X : Cx} {tg iter : Expr} : PI X tg iter (semI X tg iter) := ⟨fun pins s _ _ _ I h => h pins s I⟩
def semG (X : Cx) (tg : Expr) : TG := fun v σ H Q => ∀ (pins : List (Addr × Obj)) (s : Shared) (u : Value), Inv X pins σ H s → RelV v u → wpAny (model X.prog X.w) X.A (assign tg X.env u) (fun _ s' => ∃ σ' H', Inv X pins σ' H' s' ∧ Q σ' H') X.xe s
theorem semPG {X : Cx} {tg : Expr} : PG X tg (semG X tg) := ⟨fun pins s _ _ _ u _ I r h => h pins s u I r⟩

/-! ### targets: names -/
def setL : L2.St → List Nat → List V → L2.St
  | σ, j :: js, u :: us => setL (σ.set j (some u)) js us
  | σ, _, _ => σ
inductive Fit (B : Hp) : List V → List Cell → Prop
  | nil : Fit B [] []
  | cons {u : V} {us : List V} {c : Cell} {cs : List Cell} : c.R.r B u c.x → Fit B us cs → Fit B (u :: us) (c :: cs)
def setG : En → List Nat → List Cell → En
  | G, j :: js, c :: cs => setG (G.set j (some c)) js cs
  | G, _, _ => G
section
variable {B0 H0 : Hp} {α β γ δ : Type} {X : Cx} {O : Ob B0 H0} {G : En} {e a b c tg iter : Expr} {es : List Expr} {R : Rp α} {S : Rp β} {U : Rp γ} {x : α} {y : β} {z : γ} {pos p0 p1 p2 : Pos} {i j : Int} {js : List Nat} {cs : α → List Cell} {σ : L2.St} {B H : Hp}
theorem Sat.setL : ∀ {js : List Nat} {cs : List Cell} {us : List V} {σ : L2.St} {G : En}, Sat O G σ B H → Fit B us cs → js.length = cs.length → Sat O (setG G js cs) (Tr.setL σ js us) B H
  | [], [], _, σ, G, s, .nil, _ => s
  | j :: js, c :: cs, _, σ, G, s, .cons r t, h => by
    have z := Sat.setL (js := js) (cs := cs) (s.set j r) t (by simpa using h)
    exact z
  | [], _ :: _, _, _, _, _, _, h => by simp at h
  | _ :: _, [], _, _, _, _, _, h => by simp at h
/-- the target's slots and what they come to hold -/
structure Tg (X : Cx) (tg : Expr) (R : Rp α) (js : List Nat) (cs : α → List Cell) : Prop where
  len : ∀ x, js.length = (cs x).length
  run : ∀ (v : V) (x : α) (σ : L2.St) (B H : Hp), R.r B v x → Same B H → ∀ Q : L2.St → Hp → Prop, (∀ us, Fit B us (cs x) → Q (setL σ js us) H) → semG X tg v σ H Q
theorem Tg.name (i : Nat) {n : Str} (hN : X.N.Nodup) (hi : X.N[i]? = some n := by rfl) (hx : Loc X.env.scope n := by first | exact Or.inl rfl | exact Or.inr rfl) (hf : X.fn n = true ∨ X.env.scope.names.lookup n = some .local := by first | exact .inl rfl | exact .inr rfl) :
    Tg X (.Name n pos) R [i] (fun x => [⟨R, x⟩]) :=
  ⟨fun _ => rfl, fun v x σ B H r s Q q pins sh u I ru => (pg_name hN hi hx hf).run pins sh σ H v u Q I ru (q [v] (.cons r .nil))⟩
theorem Tg.pair {n m : Str} {k : Nat} (i j : Nat) (hc : X.calm = true) (hN : X.N.Nodup) (hi : X.N[i]? = some n := by rfl) (hj : X.N[j]? = some m := by rfl) (hx : Loc X.env.scope n := by first | exact Or.inl rfl | exact Or.inr rfl) (hy : Loc X.env.scope m := by first | exact Or.inl rfl | exact Or.inr rfl)
    (hf : X.fn n = true ∨ X.env.scope.names.lookup n = some .local := by first | exact .inl rfl | exact .inr rfl) (hf2 : X.fn m = true ∨ X.env.scope.names.lookup m = some .local := by first | exact .inl rfl | exact .inr rfl)
    (hn : (assignEach [.Name n p0, .Name m p1] X.env).length = 2 := by rfl) (hst : (assignEach [.Name n p0, .Name m p1] X.env).findIdx? (·.1) = none := by rfl) :
    Tg X (.Tuple [.Name n p0, .Name m p1] k pos) (pairR R S) [i, j] (fun x => [⟨R, x.1⟩, ⟨S, x.2⟩]) :=
  ⟨fun _ => rfl, fun v x σ B H ⟨p, w1, w2, e1, h1, h2, h3⟩ s Q q pins sh u I ru =>
    (pg_tup (n := 2) hc (pgs_cons (pg_name (pos := p0) hN hi hx hf) (pgs_cons (pg_name (pos := p1) hN hj hy hf2) pgs_nil)) hn hst).run pins sh σ H v u Q I ru
      ⟨p, [w1, w2], e1, SqT.of (s _ _ h1), rfl, w1, [w2], rfl, w2, [], rfl, rfl, q [w1, w2] (.cons h2 (.cons h3 .nil))⟩⟩
theorem Tg.trio {n m l : Str} {k : Nat} (i j o : Nat) (hc : X.calm = true) (hN : X.N.Nodup) (hi : X.N[i]? = some n := by rfl) (hj : X.N[j]? = some m := by rfl) (ho : X.N[o]? = some l := by rfl) (hx : Loc X.env.scope n := by first | exact Or.inl rfl | exact Or.inr rfl) (hy : Loc X.env.scope m := by first | exact Or.inl rfl | exact Or.inr rfl) (hz : Loc X.env.scope l := by first | exact Or.inl rfl | exact Or.inr rfl)
    (hf : X.fn n = true ∨ X.env.scope.names.lookup n = some .local := by first | exact .inl rfl | exact .inr rfl) (hf2 : X.fn m = true ∨ X.env.scope.names.lookup m = some .local := by first | exact .inl rfl | exact .inr rfl) (hf3 : X.fn l = true ∨ X.env.scope.names.lookup l = some .local := by first | exact .inl rfl | exact .inr rfl)
    (hn : (assignEach [.Name n p0, .Name m p1, .Name l p2] X.env).length = 3 := by rfl) (hst : (assignEach [.Name n p0, .Name m p1, .Name l p2] X.env).findIdx? (·.1) = none := by rfl) :
    Tg X (.Tuple [.Name n p0, .Name m p1, .Name l p2] k pos) (trioR R S U) [i, j, o] (fun x => [⟨R, x.1⟩, ⟨S, x.2.1⟩, ⟨U, x.2.2⟩]) :=
  ⟨fun _ => rfl, fun v x σ B H ⟨p, w1, w2, w3, e1, h1, h2, h3, h4⟩ s Q q pins sh u I ru =>
    (pg_tup (n := 3) hc (pgs_cons (pg_name (pos := p0) hN hi hx hf) (pgs_cons (pg_name (pos := p1) hN hj hy hf2) (pgs_cons (pg_name (pos := p2) hN ho hz hf3) pgs_nil))) hn hst).run pins sh σ H v u Q I ru
      ⟨p, [w1, w2, w3], e1, SqT.of (s _ _ h1), rfl, w1, [w2, w3], rfl, w2, [w3], rfl, w3, [], rfl, rfl, q [w1, w2, w3] (.cons h2 (.cons h3 (.cons h4 .nil)))⟩⟩

/-! ### what is walked -/
/-- iter walks the xs, while P stands -/
def IT (X : Cx) (O : Ob B0 H0) (G : En) (tg iter : Expr) (P : Hp → Hp → Prop) (R : Rp α) (xs : List α) : Prop :=
  ∀ (σ : L2.St) (B H : Hp), Sat O G σ B H → ∀ Rk : It → Hp → Prop,
    (∀ J B' H', Go B H B' H' → (∀ i B1 H1, Same B' B1 → P B1 H1 → Same B1 H1 → (i < xs.length → J.go i H1) ∧ (i = xs.length → J.stop i H1) ∧ ∀ x v H2, xs[i]? = some x → J.yld i H1 v H2 → ∃ B2, Go B1 H1 B2 H2 ∧ R.r B2 v x) → Rk J H') → semI X tg iter σ H Rk
theorem IT.of {t : TI} {P : Hp → Hp → Prop} {xs : List α} (h : PI X tg iter t) (k : ∀ (σ : L2.St) (B H : Hp), Sat O G σ B H → ∀ Rk : It → Hp → Prop,
    (∀ J B' H', Go B H B' H' → (∀ i B1 H1, Same B' B1 → P B1 H1 → Same B1 H1 → (i < xs.length → J.go i H1) ∧ (i = xs.length → J.stop i H1) ∧ ∀ x v H2, xs[i]? = some x → J.yld i H1 v H2 → ∃ B2, Go B1 H1 B2 H2 ∧ R.r B2 v x) → Rk J H') → t σ H Rk) : IT X O G tg iter P R xs :=
  fun σ B H s Rk q pins sh I => h.run pins sh σ H Rk I (k σ B H s Rk q)
theorem IT.tup {xs : List α} (h : E X O G iter (tupR R) xs) : IT X O G tg iter (fun _ _ => True) R xs :=
  IT.of (pi_tup semPE) fun σ B H s Rk q => h σ B H s _ fun v B' H' g ⟨p, vs, e1, h1, h2⟩ =>
    ⟨p, e1, ⟨vs, SqT.of (g.s _ _ h1)⟩, q _ B' H' g fun i B1 H1 sm _ s1 => by
      have hq : SqT X.K H1 p vs := SqT.of (s1 _ _ (sm _ _ h1))
      have hl := prd_len h2
      refine ⟨fun hi => ?_, fun hi => ⟨vs, hq, by omega⟩, fun x v H2 hx hy => ?_⟩
      · have hi' : i < vs.length := by omega
        exact ⟨vs, vs[i], hq, List.getElem?_eq_getElem hi'⟩
      · obtain ⟨e2, hy⟩ := hy
        subst e2
        obtain ⟨u, h3, h4⟩ := prd_get h2 hx
        have e3 : v = u := Option.some.inj ((hy vs hq).symm.trans h3)
        subst e3
        exact ⟨B1, .refl s1, R.mono sm h4⟩⟩
theorem IT.lst {xs : List α} (h : LR X O G iter R xs) : IT X O G tg iter O.p R xs :=
  IT.of (pi_list semPE) fun σ B H s Rk q => h σ B H s _ fun p B' H' g k =>
    ⟨p, rfl, (let ⟨vs, h1, _⟩ := k B' H' (.refl _) (s.go g).o; ⟨vs, SqL.of h1⟩), q _ B' H' g fun i B1 H1 sm po s1 => by
      obtain ⟨vs, h1, h2⟩ := k B1 H1 sm po
      have hq : SqL X.K H1 p vs := SqL.of h1
      have hl := prd_len h2
      refine ⟨fun hi => ?_, fun hi => ⟨vs, hq, by omega⟩, fun x v H2 hx hy => ?_⟩
      · have hi' : i < vs.length := by omega
        exact ⟨vs, vs[i], hq, List.getElem?_eq_getElem hi'⟩
      · obtain ⟨e2, hy⟩ := hy
        subst e2
        obtain ⟨u, h3, h4⟩ := prd_get h2 hx
        have e3 : v = u := Option.some.inj ((hy vs hq).symm.trans h3)
        subst e3
        exact ⟨B1, .refl s1, h4⟩⟩
/-- a list that is closed -/
theorem IT.lstF {xs : List α} (h : E X O G iter (lstR R) xs) : IT X O G tg iter (fun _ _ => True) R xs :=
  IT.of (pi_list semPE) fun σ B H s Rk q => h σ B H s _ fun v B' H' g ⟨p, vs, e1, h1, h2⟩ =>
    ⟨p, e1, ⟨vs, SqL.of (g.s _ _ h1)⟩, q _ B' H' g fun i B1 H1 sm _ s1 => by
      have hq : SqL X.K H1 p vs := SqL.of (s1 _ _ (sm _ _ h1))
      have hl := prd_len h2
      refine ⟨fun hi => ?_, fun hi => ⟨vs, hq, by omega⟩, fun x v H2 hx hy => ?_⟩
      · have hi' : i < vs.length := by omega
        exact ⟨vs, vs[i], hq, List.getElem?_eq_getElem hi'⟩
      · obtain ⟨e2, hy⟩ := hy
        subst e2
        obtain ⟨u, h3, h4⟩ := prd_get h2 hx
        have e3 : v = u := Option.some.inj ((hy vs hq).symm.trans h3)
        subst e3
        exact ⟨B1, .refl s1, R.mono sm h4⟩⟩
theorem IT.rng1 (ha : E X O G a intR i) (h0 : i < 2 ^ 62) (hl : -(2 ^ 62) ≤ i) (hm : X.mg "range" = none) (hg : Gl X "range" := by rfl) (ns : NS a := by exact fun _ _ => rfl) : IT X O G tg (.Call (.Name "range" p0) [a] [] pos) (fun _ _ => True) intR (rgI 0 i.toNat) :=
  IT.of (pi_range1 hg hm (pa_ns ns) (ns _ _)) fun σ B H s Rk q => ha σ B H s _ fun v B' H' g r =>
    ⟨i, by rw [r], hl, h0, q _ B' H' g fun k B1 H1 sm _ s1 => by
      rw [rgI_len]
      refine ⟨fun h => h, fun h => Nat.le_of_eq h.symm, fun x v H2 hx hy => ?_⟩
      obtain ⟨e1, e2⟩ := hy
      subst e1 e2
      exact ⟨B1, .refl s1, by rw [(rgI_get hx).1]; rfl⟩⟩
theorem IT.rng2 (ha : E X O G a intR i) (hb : E X O G b intR j) (h0 : -(2 ^ 62) ≤ i ∧ i < 2 ^ 62 ∧ -(2 ^ 62) ≤ j ∧ j < 2 ^ 62) (hm : X.mg "range" = none) (hg : Gl X "range" := by rfl) (na : NS a := by exact fun _ _ => rfl) (nb : NS b := by exact fun _ _ => rfl) :
    IT X O G tg (.Call (.Name "range" p0) [a, b] [] pos) (fun _ _ => True) intR (rgI i (j - i).toNat) :=
  IT.of (pi_range2 hg hm (pa_cons semPE (pa_ns nb) (na _ _)) (by rw [na, nb]; rfl) (by rw [nb]; rfl)) fun σ B H s Rk q => ha σ B H s _ fun v B' H' g r => hb σ B' H' (s.go g) _ fun w B2 H2 g2 r2 =>
    ⟨i, j, by rw [r, r2], h0, q _ B2 H2 (g.trans g2) fun k B1 H1 sm _ s1 => by
      rw [rgI_len]
      refine ⟨fun h => h, fun h => Nat.le_of_eq h.symm, fun x v H2 hx hy => ?_⟩
      obtain ⟨e1, e2⟩ := hy
      subst e1 e2
      exact ⟨B1, .refl s1, by rw [(rgI_get hx).1]; rfl⟩⟩
theorem IT.revR {n : Nat} (ha : E X O G a intR (n : Int)) (h0 : n < 2 ^ 62) (hm : X.mg "range" = none) (hm2 : X.mg "reversed" = none) (hg : Gl X "range" := by rfl) (hg2 : Gl X "reversed" := by rfl) (ns : NS a := by exact fun _ _ => rfl) :
    IT X O G tg (.Call (.Name "reversed" p1) [.Call (.Name "range" p0) [a] [] pos] [] p2) (fun _ _ => True) intR (rgR n) :=
  IT.of (pi_revR hg2 hm2 (prg_1 hg hm semPE (ns _ _))) fun σ B H s Rk q => ha σ B H s _ fun v B' H' g r => by
    have hn : ((n : Int) - 0).toNat = n := by omega
    refine ⟨(n : Int), r, by decide, by decide, by omega, by omega, ?_⟩
    rw [hn]
    refine q _ B' H' g fun k B1 H1 sm _ s1 => ?_
    rw [rgR_len]
    refine ⟨fun h => h, fun h => Nat.le_of_eq h.symm, fun x v H2 hx hy => ?_⟩
    obtain ⟨e1, e2⟩ := hy
    subst e1 e2
    refine ⟨B1, .refl s1, ?_⟩
    show V.int _ = V.int x
    rw [(rgR_get hx).1]
    congr 1
    omega
theorem pa3 (na : NS a) (nb : NS b) (nc : NS c) : PA X [a, b, c] (tCons (semE X a) (tCons (semE X b) (tCons (semE X c) tNil))) := pa_cons semPE (pa_cons semPE (pa_ns nc) (nb _ _)) (na _ _)
theorem IT.rngD {n : Nat} (ha : E X O G a intR ((n : Int) - 1)) (hb : E X O G b intR (-1)) (hc : E X O G c intR (-1)) (h0 : n < 2 ^ 60) (hm : X.mg "range" = none) (hg : Gl X "range" := by rfl) (na : NS a := by exact fun _ _ => rfl) (nb : NS b := by exact fun _ _ => rfl) (nc : NS c := by exact fun _ _ => rfl)
    (hpl : (backTo pos (starEach [b, c] X.env)).any (·.1) = false := by rfl) : IT X O G tg (.Call (.Name "range" p0) [a, b, c] [] pos) (fun _ _ => True) intR (rgR n) :=
  IT.of (pi_range3 hg hm (pa3 na nb nc) (na _ _) hpl) fun σ B H s Rk q => ha σ B H s _ fun v B' H' g r => hb σ B' H' (s.go g) _ fun w B2 H2 g2 r2 => hc σ B2 H2 (s.go (g.trans g2)) _ fun w3 B3 H3 g3 r3 => by
    have hn : ((n : Int) - 1 - (-1)).toNat = n := by omega
    have rc := RgC.neg (i := (n : Int) - 1) (j := -1) (by omega) (by omega) (by decide) (by decide)
    rw [hn] at rc
    refine ⟨(n : Int) - 1, -1, -1, n, by rw [r, r2, r3], rc, q _ B3 H3 ((g.trans g2).trans g3) fun k B1 H1 sm _ s1 => ?_⟩
    rw [rgR_len]
    refine ⟨fun h => h, fun h => Nat.le_of_eq h.symm, fun x v H2 hx hy => ?_⟩
    obtain ⟨e1, e2⟩ := hy
    subst e1 e2
    refine ⟨B1, .refl s1, ?_⟩
    show V.int _ = V.int x
    rw [(rgR_get hx).1]
    congr 1
    omega
end
end Tr

set_option maxHeartbeats 4000000
namespace Tr
open PySem L2

theorem sep5 (N a b : Nat) (la : a < N) (lb : b < N) : ZipSep2 (N + 4) (N + 2) (N + 3) N (N + 1) [N, a] [N + 1, b] := by
  have m2 : ∀ (x y z : Nat), x ≠ y → x ≠ z → x ∉ [y, z] := fun x y z h1 h2 h => by
    rcases List.mem_cons.mp h with q | q
    · exact h1 q
    · exact h2 (List.mem_singleton.mp q)
  have n : ∀ (x y : Nat), (x < y ∨ y < x) → x ≠ y := fun x y h => by omega
  exact ⟨n _ _ (by omega), n _ _ (by omega), n _ _ (by omega), n _ _ (by omega), List.mem_cons_self, m2 _ _ _ (n _ _ (by omega)) (n _ _ (by omega)), m2 _ _ _ (n _ _ (by omega)) (n _ _ (by omega)), n _ _ (by omega), List.mem_cons_self, m2 _ _ _ (n _ _ (by omega)) (n _ _ (by omega)), m2 _ _ _ (n _ _ (by omega)) (n _ _ (by omega)), m2 _ _ _ (n _ _ (by omega)) (n _ _ (by omega)), m2 _ _ _ (n _ _ (by omega)) (n _ _ (by omega))⟩
theorem ne_lt {a N : Nat} (h : a < N) : a ≠ N := by omega
theorem ne_lt1 {a N : Nat} (h : a < N) : a ≠ N + 1 := by omega
theorem ne_s {N : Nat} : N + 1 ≠ N := by omega
theorem le5 {N c : Nat} (hcm : c ∈ [N + 4, N + 2, N + 3, N, N + 1]) : N ≤ c := by
  have alt : c = N + 4 ∨ c = N + 2 ∨ c = N + 3 ∨ c = N ∨ c = N + 1 := by simpa using hcm
  omega
theorem le2 {N c : Nat} (hcm : c ∈ [N + 1, N]) : N ≤ c := by
  have alt : c = N + 1 ∨ c = N := by simpa using hcm
  omega
/-- a tuple at a and a list at b, side by side, each pair new -/
def ItzM (K : PySem.W.Frag) (a b : Addr) : It :=
  ⟨fun i H => ∃ (xs ys : List V) (x y : V), SqT K H a xs ∧ SqL K H b ys ∧ xs.length = ys.length ∧ xs[i]? = some x ∧ ys[i]? = some y,
    fun i H v H' => ∃ T x y, v = .ref T ∧ H T = none ∧ H' = upd H T (.tup [x, y]) ∧ (∀ xs, SqT K H a xs → xs[i]? = some x) ∧ ∀ ys, SqL K H b ys → ys[i]? = some y,
    fun i H => ∃ xs ys : List V, SqT K H a xs ∧ SqL K H b ys ∧ xs.length = ys.length ∧ xs.length = i⟩
theorem turn_zipM {P : Program} {w : World} {K : PySem.W.Frag} {elts : List Expr} {kk : Nat} {tpos : Pos} {a b z TI TO i1 i2 : Addr} (S : ZipSep2 z TI TO i1 i2 [i1, a] [i2, b]) (na : a ≠ i1) (nb : b ≠ i2) :
    Turn P w K (.Tuple elts kk tpos) (ItzM K a b) [z, TI, TO, i1, i2] z (fun i h => IsZip h z TI TO .none ∧ IsTupOf2 h TI (.ref i1) (.ref i2) ∧ (∃ x y, IsTupOf2 h TO x y) ∧ h.IsTupleIter i1 a i ∧ h.IsListIter i2 b i) where
  mem := by simp
  obj := fun i h st c hc => by
    obtain ⟨hz, hTI, ⟨x, y, hTO⟩, ⟨o1, e1, _, d1⟩, ⟨o2, e2, _, d2⟩⟩ := st
    have alt : c = z ∨ c = TI ∨ c = TO ∨ c = i1 ∨ c = i2 := by simpa using hc
    rcases alt with q | q | q | q | q <;> subst q
    · exact ⟨_, hz, fun v q => nomatch q⟩
    · exact ⟨_, hTI, fun v q => nomatch q⟩
    · exact ⟨_, hTO, fun v q => nomatch q⟩
    · exact ⟨o1, e1, fun v q => by rw [d1] at q; cases q⟩
    · exact ⟨o2, e2, fun v q => by rw [d2] at q; cases q⟩
  keep := fun i h h' st k => by
    obtain ⟨hz, hTI, ⟨x, y, hTO⟩, h1, h2⟩ := st
    exact ⟨k z (by simp) _ hz, k TI (by simp) _ hTI, ⟨x, y, k TO (by simp) _ hTO⟩, h1.at fun o q => k i1 (by simp) o q, h2.at fun o q => k i2 (by simp) o q⟩
  item := by
    intro X hP hw hK hc i pins s σ H E I hf st hg
    subst hP hw hK
    obtain ⟨hz, hTI, hTO, h1, h2⟩ := st
    obtain ⟨xs, ys, x, y, hqx, hqy, hl, hx, hy⟩ := hg
    obtain ⟨its, rv, p, _⟩ := I.tuple hqx
    obtain ⟨its2, rv2, p2, _⟩ := I.list hqy
    obtain ⟨u, hu, ru⟩ := rv.get hx
    obtain ⟨u2, hu2, ru2⟩ := rv2.get hy
    have hh : X.A.in1.handled = none := I.ok.hd hc
    have W := GoesN.zip2 (elts := elts) (x1 := kk) (pos := tpos) S (Draws.tuple (prog := X.prog) (w := X.w) hh i1 a na its.toArray) (Draws.list (prog := X.prog) (w := X.w) hh i2 b nb its2.toArray)
    have l1 := rv.length
    have l2 := rv2.length
    have hi : i < xs.length := (List.getElem?_eq_some_iff.mp hx).1
    have n1 : its.toArray.size = xs.length := by rw [List.size_toArray, l1]
    have n2 : its2.toArray.size = xs.length := by rw [List.size_toArray, ← l2, ← hl]
    refine W.goes i s _ E (by rw [n1, n2, Nat.min_self]; exact hi) ⟨hz, hTI, hTO, ⟨h1, p⟩, ⟨h2, p2.isList⟩⟩ fun v h' tk hY st' hk _ => ?_
    obtain ⟨T, w1, w2, ev, hT, e1, e2, o, ho, hoc, n, hod⟩ := hY
    subst ev
    have e1' : w1 = u := by
      have : its[i]? = some w1 := by simpa using e1
      exact Option.some.inj (this.symm.trans hu)
    have e2' : w2 = u2 := by
      have : its2[i]? = some w2 := by simpa using e2
      exact Option.some.inj (this.symm.trans hu2)
    subst e1' e2'
    obtain ⟨hz', hTI', hTO', ⟨h1', _⟩, ⟨h2', _⟩⟩ := st'
    have new : ObjOk X.prog X.w (upd H T (.tup [x, y])) h' T (.tup [x, y]) :=
      ⟨by show 2 ≤ sizeLine; decide, [w1, w2], .cons ru (.cons ru2 .nil), ⟨o, ho, hoc, n, hod⟩⟩
    have old : ∀ c ∈ [z, TI, TO, i1, i2], c < s.heap.objs.size := fun c hcm => by
      have alt : c = z ∨ c = TI ∨ c = TO ∨ c = i1 ∨ c = i2 := by simpa using hcm
      obtain ⟨_, _, hTO2⟩ := hTO
      rcases alt with q | q | q | q | q <;> subst q
      · exact Heap.lt_size hz
      · exact Heap.lt_size hTI
      · exact Heap.lt_size hTO2
      · obtain ⟨_, e, _⟩ := h1; exact Heap.lt_size e
      · obtain ⟨_, e, _⟩ := h2; exact Heap.lt_size e
    refine ⟨.ref T, upd H T (.tup [x, y]), ?_, rfl, ⟨T, x, y, rfl, I.hok.fresh hT, rfl, fun l q => by rw [I.tuple_inj q hqx]; exact hx, fun l q => by rw [I.list_inj q hqy]; exact hy⟩, ⟨hz', hTI', hTO', h1', h2'⟩, fun c hcm => ?_⟩
    · exact I.turnedNew (ch := [z, TI, TO, i1, i2]) (fun c o hb q => hk c o (fun m => hb (by
        have alt : c = z ∨ c = TO ∨ c = i1 ∨ c = i2 := by simpa using m
        rcases alt with q | q | q | q <;> simp [q])) q) hf hT new
    · rw [upd_ne (Nat.ne_of_lt (Nat.lt_of_lt_of_le (old c hcm) hT))]
      exact (hf c hcm).1
  done := by
    intro X hP hw hK hc i pins s σ H E I hf st hg
    subst hP hw hK
    obtain ⟨hz, hTI, hTO, h1, h2⟩ := st
    obtain ⟨xs, ys, hqx, hqy, hl, hend⟩ := hg
    obtain ⟨its, rv, p, _⟩ := I.tuple hqx
    obtain ⟨its2, rv2, p2, _⟩ := I.list hqy
    have hh : X.A.in1.handled = none := I.ok.hd hc
    have W := GoesN.zip2 (elts := elts) (x1 := kk) (pos := tpos) S (Draws.tuple (prog := X.prog) (w := X.w) hh i1 a na its.toArray) (Draws.list (prog := X.prog) (w := X.w) hh i2 b nb its2.toArray)
    have n1 : its.toArray.size = i := by rw [List.size_toArray, ← rv.length, hend]
    have n2 : its2.toArray.size = i := by rw [List.size_toArray, ← rv2.length, ← hl, hend]
    have hn : min its.toArray.size its2.toArray.size = i := by rw [n1, n2, Nat.min_self]
    refine W.stops s _ E (by rw [hn]; exact ⟨hz, hTI, hTO, ⟨h1, p⟩, ⟨h2, p2.isList⟩⟩) fun h' tk hk _ => ?_
    exact I.turnedL (ch := [z, TI, TO, i1, i2]) (fun c o hb q => hk c o (fun m => hb (by
      have alt : c = z ∨ c = TO ∨ c = i1 ∨ c = i2 := by simpa using m
      rcases alt with q | q | q | q <;> simp [q])) q) hf
  self := fun A i s Q E st h => wpAny_pyIter_zip st.1 h

def iZipM (K : PySem.W.Frag) (ta : TA) : TI := fun σ H R => ta σ H fun vs H1 => ∃ a b xs ys, vs = [.ref a, .ref b] ∧ SqT K H1 a xs ∧ SqL K H1 b ys ∧ R (ItzM K a b) H1
theorem pi_zipM {X : Cx} {e e2 : Expr} {ta : TA} {p pos tpos : Pos} {elts : List Expr} {kk : Nat} (hg : Gl X "zip") (hm : X.mg "zip" = none) (ha : PA X [e, e2] ta)
    (hs : starEach [e, e2] X.env = (false, eval e X.env) :: starEach [e2] X.env) (hpl : (backTo pos (starEach [e2] X.env)).any (·.1) = false) :
    PI X (.Tuple elts kk tpos) (.Call (.Name "zip" p) [e, e2] [] pos) (iZipM X.K ta) := by
  refine ⟨fun pins s σ H R I h => ?_⟩
  refine PyProof.Rows.Call_ (ld_blt I hg hm PyProof.Rows.boot_zip (PyProof.Rows.callWith_type1 (thn (ha.run pos pins s σ H _ I h) fun us s1 ⟨vs, H1, I1, r1, q1⟩ => ?_) hs hpl))
  obtain ⟨a, b, xs, ys, ex, hqx, hqy, q⟩ := q1
  subst ex
  cases r1 with
  | cons r rr =>
    cases rr with
    | cons r' rr =>
      cases rr
      cases r
      cases r'
      obtain ⟨its, rv, p1, _⟩ := I1.tuple hqx
      obtain ⟨its2, rv2, p2, _⟩ := I1.list hqy
      obtain ⟨o1, ho1, _⟩ := id p1
      have la : a < s1.heap.objs.size := Heap.lt_size ho1
      have lb : b < s1.heap.objs.size := p2.lt
      refine zip_begins2 (begins_tuple a its.toArray) (begins_list b its2.toArray) p1 p2.isList fun h' hz hTI hTO g1 g2 hsz hk => wpAny_pyIter_zip hz ?_
      refine ⟨s1.heap.objs.size + 4, [s1.heap.objs.size + 4, s1.heap.objs.size + 2, s1.heap.objs.size + 3, s1.heap.objs.size, s1.heap.objs.size + 1], _, _, H1, rfl, I1.kept (t' := s1.toks) hk, turn_zipM (sep5 _ _ _ la lb) (ne_lt la) (ne_lt1 lb), ⟨hz, hTI, ⟨_, _, hTO⟩, ⟨_, g1, rfl, rfl⟩, ⟨_, g2, rfl, rfl⟩⟩, fun c hcm => ?_, q⟩
      exact I1.fpOk (le5 hcm) (I1.hok.fresh (le5 hcm))

/-! ### enumerate of a tuple -/
theorem meets_enumT {v : Value} {o : Obj} {H : Heap → Prop} (B : Begins v o H) :
    Meets (Builtin.«enumerate.__new__» ⟨[.type "enumerate", v], []⟩) (fun _ R s => H s.heap ∧
      R (.ok (.ret (.ref (s.heap.push o).objs.size))) { s with heap := (s.heap.push o).push { cls := .type "enumerate", data := .fields #[.none, .bool false, .ref s.heap.objs.size, rawInt 0, .none, .none] } }) :=
  .of_wp fun prog w A R s h => by
    obtain ⟨hp, gs, dr, tk, os⟩ := s
    obtain ⟨h1, h⟩ := h
    have hsub := sub_enumerate
    have q1 : ∀ {A' : Around} {E : Value → Shared → Prop} {Q : Value → Shared → Prop}, Q (.ref hp.objs.size) ⟨hp.push o, gs, dr, tk, os⟩ → wpAny (model prog w) A' (pyIter v) Q E ⟨hp, gs, dr, tk, os⟩ :=
      fun q => B.iter prog w _ _ ⟨hp, gs, dr, tk, os⟩ _ h1 q
    wp_walk using q1
    refine wpAny_stack_any fun st => wpAny_pure ?_
    split
    · rename_i c _ _ _ _ _
      cases (c == Value.type "enumerate") <;> (wp_walk using q1; exact ⟨_, rfl, h⟩)
    · wp_walk using q1
      exact ⟨_, rfl, h⟩
theorem call_enumT {prog : Program} {w : World} {A : Around} {E : Value → Shared → Prop} {s : Shared} {v : Value} {o : Obj} {H : Heap → Prop} {Q : Value → Shared → Prop} (B : Begins v o H) (h1 : H s.heap)
    (h : ∀ h', IsEnum h' (s.heap.objs.size + 1) s.heap.objs.size 0 .none → h'.get? s.heap.objs.size = some o → (∀ b o, s.heap.get? b = some o → h'.get? b = some o) → Q (.ref (s.heap.objs.size + 1)) { s with heap := h' }) :
    wpAny (model prog w) A (call (.type "enumerate") [v]) Q E s := by
  refine callType_new F.called_enumerate (by decide) (F.typeCall_enumerate_1 _) (F.newCall_enumerate_1 _) (fun obj => F.args_object_init_2 obj _) F.entry_enumerate_new (meets_enumT B) ⟨h1, ?_⟩
  have hz : (s.heap.push o).objs.size = s.heap.objs.size + 1 := Heap.size_push ..
  show _ ∧ _
  have he := Heap.get?_push_size (s.heap.push o) (o := { cls := .type "enumerate", data := .fields #[.none, .bool false, .ref s.heap.objs.size, rawInt 0, .none, .none] }) rfl
  rw [hz] at he ⊢
  exact ⟨⟨_, he, rfl⟩, h _ he (Heap.get?_push_of_some _ (Heap.get?_push_size _ B.free)) fun b o x => Heap.get?_push_of_some _ (Heap.get?_push_of_some _ x)⟩

def IteT (K : PySem.W.Frag) (a : Addr) : It :=
  ⟨fun i H => ∃ (xs : List V) (x : V), SqT K H a xs ∧ xs[i]? = some x, fun i H v H' => ∃ T x, v = .ref T ∧ H T = none ∧ H' = upd H T (.tup [.int (i : Nat), x]) ∧ ∀ xs, SqT K H a xs → xs[i]? = some x, fun i H => ∃ xs : List V, SqT K H a xs ∧ xs.length = i⟩
theorem turn_enumT {P : Program} {w : World} {K : PySem.W.Frag} {elts : List Expr} {kk : Nat} {tpos : Pos} (a e it : Addr) (na : a ≠ it) (ne : e ≠ it) (nae : a ≠ e) :
    Turn P w K (.Tuple elts kk tpos) (IteT K a) [e, it] e (fun i h => (∃ old, IsEnum h e it (0 + ((i : Nat) : Int)) old) ∧ h.IsTupleIter it a i) where
  mem := by simp
  obj := fun i h st b hb => by
    obtain ⟨⟨old, he⟩, ⟨o, ho, hc, hd⟩⟩ := st
    have alt : b = e ∨ b = it := by simpa using hb
    rcases alt with q | q <;> subst q
    · exact ⟨_, he, fun v q => nomatch q⟩
    · exact ⟨o, ho, fun v q => by rw [hd] at q; cases q⟩
  keep := fun i h h' st k => let ⟨⟨old, he⟩, hi⟩ := st; ⟨⟨old, k e (by simp) _ he⟩, hi.at fun o q => k it (by simp) o q⟩
  item := by
    intro X hP hw hK hc i pins s σ H E I hf st hg
    subst hP hw hK
    obtain ⟨he, hit⟩ := st
    obtain ⟨xs, x, hq, hx⟩ := hg
    obtain ⟨its, rv, p, hz⟩ := I.tuple hq
    obtain ⟨u, hu, ru⟩ := rv.get hx
    have hh : X.A.in1.handled = none := I.ok.hd hc
    have W := GoesN.enumFrom (elts := elts) (x1 := kk) (pos := tpos) 0 (Draws.tuple (prog := X.prog) (w := X.w) hh it a na its.toArray) e ne (by simp [ne, nae.symm]) (by simp)
    have hi : i < xs.length := (List.getElem?_eq_some_iff.mp hx).1
    refine W.goes i s _ E (by rw [List.size_toArray, ← rv.length]; exact hi) ⟨he, hit, p⟩ fun v h' tk hY st' hk _ => ?_
    obtain ⟨T, t, w1, ev, hT, e1, o, ho, hoc, n, hod⟩ := hY
    subst ev
    have e1' : w1 = u := by
      have : its[i]? = some w1 := by simpa using e1
      exact Option.some.inj (this.symm.trans hu)
    subst e1'
    obtain ⟨he', hit', _⟩ := st'
    have e0 : (0 : Int) + ((i : Nat) : Int) = ((i : Nat) : Int) := Int.zero_add _
    have new : ObjOk X.prog X.w (upd H T (.tup [.int (i : Nat), x])) h' T (.tup [.int (i : Nat), x]) :=
      ⟨by show 2 ≤ sizeLine; decide, [.int (0 + ((i : Nat) : Int)) t, w1], .cons ⟨t, by rw [e0]⟩ (.cons ru .nil), ⟨o, ho, hoc, n, hod⟩⟩
    have old : ∀ c ∈ [e, it], c < s.heap.objs.size := fun c hcm => by
      have alt : c = e ∨ c = it := by simpa using hcm
      obtain ⟨_, he2⟩ := he
      rcases alt with q | q <;> subst q
      · exact Heap.lt_size he2
      · obtain ⟨_, e, _⟩ := hit; exact Heap.lt_size e
    refine ⟨.ref T, upd H T (.tup [.int (i : Nat), x]), ?_, rfl, ⟨T, x, rfl, I.hok.fresh hT, rfl, fun l q => by rw [I.tuple_inj q hq]; exact hx⟩, ⟨he', hit'⟩, fun c hcm => ?_⟩
    · exact I.turnedNew (ch := [e, it]) (fun c o hb q => hk c o hb q) hf hT new
    · rw [upd_ne (Nat.ne_of_lt (Nat.lt_of_lt_of_le (old c hcm) hT))]
      exact (hf c hcm).1
  done := by
    intro X hP hw hK hc i pins s σ H E I hf st hg
    subst hP hw hK
    obtain ⟨he, hit⟩ := st
    obtain ⟨xs, hq, hx⟩ := hg
    obtain ⟨its, rv, p, hz⟩ := I.tuple hq
    have hh : X.A.in1.handled = none := I.ok.hd hc
    have W := GoesN.enumFrom (elts := elts) (x1 := kk) (pos := tpos) 0 (Draws.tuple (prog := X.prog) (w := X.w) hh it a na its.toArray) e ne (by simp [ne, nae.symm]) (by simp)
    have hn : its.toArray.size = i := by rw [List.size_toArray, ← rv.length, hx]
    refine W.stops s _ E (by rw [hn]; exact ⟨he, hit, p⟩) fun h' tk hk _ => ?_
    exact I.turnedL (ch := [e, it]) (fun c o hb q => hk c o hb q) hf
  self := fun A i s Q E st h => let ⟨⟨_, he⟩, _⟩ := st; wpAny_pyIter_enum he h
def iEnumT (K : PySem.W.Frag) (ta : TA) : TI := fun σ H R => ta σ H fun vs H1 => ∃ a xs, vs = [.ref a] ∧ SqT K H1 a xs ∧ R (IteT K a) H1
theorem pi_enumT {X : Cx} {e : Expr} {ta : TA} {p pos tpos : Pos} {elts : List Expr} {kk : Nat} (hg : Gl X "enumerate") (hm : X.mg "enumerate" = none) (ha : PA X [e] ta) (hs : starEach [e] X.env = [(false, eval e X.env)]) :
    PI X (.Tuple elts kk tpos) (.Call (.Name "enumerate" p) [e] [] pos) (iEnumT X.K ta) := by
  refine ⟨fun pins s σ H R I h => ?_⟩
  refine PyProof.Rows.Call_ (ld_blt I hg hm PyProof.Rows.boot_enumerate (PyProof.Rows.callWith_type1 (thn (ha.run pos pins s σ H _ I h) fun us s1 ⟨vs, H1, I1, r1, q1⟩ => ?_) hs rfl))
  obtain ⟨a, xs, ex, hq, q⟩ := q1
  subst ex
  cases r1 with
  | cons r rr =>
    cases rr
    cases r
    obtain ⟨its, rv, p', _⟩ := I1.tuple hq
    obtain ⟨o1, ho1, _⟩ := id p'
    have la : a < s1.heap.objs.size := Heap.lt_size ho1
    refine call_enumT (begins_tuple a its.toArray) p' fun h' he hit hk => wpAny_pyIter_enum he ?_
    refine ⟨s1.heap.objs.size + 1, [s1.heap.objs.size + 1, s1.heap.objs.size], _, _, H1, rfl, I1.kept (t' := s1.toks) hk, turn_enumT a (s1.heap.objs.size + 1) s1.heap.objs.size (ne_lt la) ne_s (ne_lt1 la), ⟨⟨.none, he⟩, ⟨_, hit, rfl, rfl⟩⟩, fun b hb => ?_, q⟩
    exact I1.fpOk (le2 hb) (I1.hok.fresh (le2 hb))
end Tr

set_option maxHeartbeats 4000000
namespace Tr
open PySem L2 Mi
section
variable {B0 H0 : Hp} {α β γ δ : Type} {X : Cx} {O : Ob B0 H0} {G : En} {e a b c tg iter : Expr} {es : List Expr} {R : Rp α} {S : Rp β} {U : Rp γ} {x : α} {y : β} {z : γ} {pos p0 p1 p2 tpos : Pos} {i j : Int} {js : List Nat} {cs : α → List Cell} {σ : L2.St} {B H : Hp} {elts : List Expr} {kk : Nat}

theorem IT.enum {xs : List α} (h : E X O G e (tupR R) xs) (hm : X.mg "enumerate" = none) (hg : Gl X "enumerate" := by rfl) (ns : NS e := by exact fun _ _ => rfl) :
    IT X O G (.Tuple elts kk tpos) (.Call (.Name "enumerate" p0) [e] [] pos) (fun _ _ => True) (pairR intR R) (enumI xs) :=
  IT.of (pi_enumT hg hm (pa_ns ns) (ns _ _)) fun σ B H s Rk q => h σ B H s _ fun v B' H' g ⟨p, vs, e1, h1, h2⟩ =>
    ⟨p, vs, by rw [e1], SqT.of (g.s _ _ h1), q _ B' H' g fun i B1 H1 sm _ s1 => by
      have hq : SqT X.K H1 p vs := SqT.of (s1 _ _ (sm _ _ h1))
      have hl := prd_len h2
      rw [enumI_len]
      refine ⟨fun hi => ?_, fun hi => ⟨vs, hq, by omega⟩, fun x v H2 hx hy => ?_⟩
      · have hi' : i < vs.length := by omega
        exact ⟨vs, vs[i], hq, List.getElem?_eq_getElem hi'⟩
      · obtain ⟨T, w, e2, hT, e3, hy⟩ := hy
        subst e2 e3
        obtain ⟨hx1, hx2⟩ := enumI_get hx
        obtain ⟨u, h3, h4⟩ := prd_get h2 hx2
        have e4 : w = u := Option.some.inj ((hy vs hq).symm.trans h3)
        subst e4
        refine ⟨_, Go.new s1 hT, T, .int (i : Nat), w, rfl, upd_same, ?_, R.mono (sm.trans (Go.new s1 hT).b) h4⟩
        show V.int _ = V.int x.1
        rw [hx1]⟩
theorem zip_get {xs : List α} {ys : List β} {i : Nat} {w : α × β} (h : (xs.zip ys)[i]? = some w) : xs[i]? = some w.1 ∧ ys[i]? = some w.2 := by
  rw [List.getElem?_zip_eq_some] at h
  exact h
theorem zip_len {xs : List α} {ys : List β} (h : xs.length = ys.length) : (xs.zip ys).length = xs.length := by rw [List.length_zip, h, Nat.min_self]
theorem pa2 (na : NS a) (nb : NS b) : PA X [a, b] (tCons (semE X a) (tCons (semE X b) tNil)) := pa_cons semPE (pa_ns nb) (na _ _)
theorem IT.zipT {xs : List α} {ys : List β} (ha : E X O G a (tupR R) xs) (hb : E X O G b (tupR S) ys) (hl : xs.length = ys.length) (hm : X.mg "zip" = none) (hg : Gl X "zip" := by rfl) (na : NS a := by exact fun _ _ => rfl) (nb : NS b := by exact fun _ _ => rfl) (hpl : (backTo pos (starEach [b] X.env)).any (·.1) = false := by rfl) :
    IT X O G (.Tuple elts kk tpos) (.Call (.Name "zip" p0) [a, b] [] pos) (fun _ _ => True) (pairR R S) (xs.zip ys) :=
  IT.of (RZ.pi_zipA hg hm (pa2 na nb) (na _ _) hpl) fun σ B H s Rk q => ha σ B H s _ fun v B1 H1 g1 ⟨p, vs, e1, h1, h2⟩ => hb σ B1 H1 (s.go g1) _ fun w B2 H2 g2 ⟨p', ws, e2, h3, h4⟩ => by
    refine ⟨p, p', vs, ws, by rw [e1, e2], .inr ⟨SqT.of (g2.s _ _ (g2.b _ _ h1)), SqT.of (g2.s _ _ h3), q _ B2 H2 (g1.trans g2) fun i B3 H3 sm _ s1 => ?_⟩⟩
    have hq : SqT X.K H3 p vs := SqT.of (s1 _ _ (sm _ _ (g2.b _ _ h1)))
    have hq' : SqT X.K H3 p' ws := SqT.of (s1 _ _ (sm _ _ h3))
    have l1 := prd_len h2
    have l2 := prd_len h4
    rw [zip_len hl]
    refine ⟨fun hi => ?_, fun hi => ⟨vs, ws, hq, hq', .inl (by omega)⟩, fun x v H5 hx hy => ?_⟩
    · have hi1 : i < vs.length := by omega
      have hi2 : i < ws.length := by omega
      exact ⟨vs, ws, vs[i], ws[i], hq, hq', List.getElem?_eq_getElem hi1, List.getElem?_eq_getElem hi2⟩
    · obtain ⟨T, w1, w2, e3, hT, e4, hy1, hy2⟩ := hy
      subst e3 e4
      obtain ⟨hx1, hx2⟩ := zip_get hx
      obtain ⟨u1, k1, k2⟩ := prd_get h2 hx1
      obtain ⟨u2, k3, k4⟩ := prd_get h4 hx2
      have e5 : w1 = u1 := Option.some.inj ((hy1 vs hq).symm.trans k1)
      have e6 : w2 = u2 := Option.some.inj ((hy2 ws hq').symm.trans k3)
      subst e5 e6
      exact ⟨_, Go.new s1 hT, T, w1, w2, rfl, upd_same, R.mono (g2.b.trans (sm.trans (Go.new s1 hT).b)) k2, S.mono (sm.trans (Go.new s1 hT).b) k4⟩
theorem IT.zipM {xs : List α} {ys : List β} (ha : E X O G a (tupR R) xs) (hb : E X O G b (lstR S) ys) (hl : xs.length = ys.length) (hm : X.mg "zip" = none) (hg : Gl X "zip" := by rfl) (na : NS a := by exact fun _ _ => rfl) (nb : NS b := by exact fun _ _ => rfl) (hpl : (backTo pos (starEach [b] X.env)).any (·.1) = false := by rfl) :
    IT X O G (.Tuple elts kk tpos) (.Call (.Name "zip" p0) [a, b] [] pos) (fun _ _ => True) (pairR R S) (xs.zip ys) :=
  IT.of (pi_zipM hg hm (pa2 na nb) (na _ _) hpl) fun σ B H s Rk q => ha σ B H s _ fun v B1 H1 g1 ⟨p, vs, e1, h1, h2⟩ => hb σ B1 H1 (s.go g1) _ fun w B2 H2 g2 ⟨p', ws, e2, h3, h4⟩ => by
    refine ⟨p, p', vs, ws, by rw [e1, e2], SqT.of (g2.s _ _ (g2.b _ _ h1)), SqL.of (g2.s _ _ h3), q _ B2 H2 (g1.trans g2) fun i B3 H3 sm _ s1 => ?_⟩
    have hq : SqT X.K H3 p vs := SqT.of (s1 _ _ (sm _ _ (g2.b _ _ h1)))
    have hq' : SqL X.K H3 p' ws := SqL.of (s1 _ _ (sm _ _ h3))
    have l1 := prd_len h2
    have l2 := prd_len h4
    rw [zip_len hl]
    refine ⟨fun hi => ?_, fun hi => ⟨vs, ws, hq, hq', by omega, by omega⟩, fun x v H5 hx hy => ?_⟩
    · have hi1 : i < vs.length := by omega
      have hi2 : i < ws.length := by omega
      exact ⟨vs, ws, vs[i], ws[i], hq, hq', by omega, List.getElem?_eq_getElem hi1, List.getElem?_eq_getElem hi2⟩
    · obtain ⟨T, w1, w2, e3, hT, e4, hy1, hy2⟩ := hy
      subst e3 e4
      obtain ⟨hx1, hx2⟩ := zip_get hx
      obtain ⟨u1, k1, k2⟩ := prd_get h2 hx1
      obtain ⟨u2, k3, k4⟩ := prd_get h4 hx2
      have e5 : w1 = u1 := Option.some.inj ((hy1 vs hq).symm.trans k1)
      have e6 : w2 = u2 := Option.some.inj ((hy2 ws hq').symm.trans k3)
      subst e5 e6
      exact ⟨_, Go.new s1 hT, T, w1, w2, rfl, upd_same, R.mono (g2.b.trans (sm.trans (Go.new s1 hT).b)) k2, S.mono (sm.trans (Go.new s1 hT).b) k4⟩
theorem IT.zipL {xs : List α} {ys : List β} (ha : E X O G a (lstR R) xs) (hb : E X O G b (lstR S) ys) (hl : xs.length = ys.length) (hm : X.mg "zip" = none) (hg : Gl X "zip" := by rfl) (na : NS a := by exact fun _ _ => rfl) (nb : NS b := by exact fun _ _ => rfl) (hpl : (backTo pos (starEach [b] X.env)).any (·.1) = false := by rfl) :
    IT X O G (.Tuple elts kk tpos) (.Call (.Name "zip" p0) [a, b] [] pos) (fun _ _ => True) (pairR R S) (xs.zip ys) :=
  IT.of (RZ.pi_zipA hg hm (pa2 na nb) (na _ _) hpl) fun σ B H s Rk q => ha σ B H s _ fun v B1 H1 g1 ⟨p, vs, e1, h1, h2⟩ => hb σ B1 H1 (s.go g1) _ fun w B2 H2 g2 ⟨p', ws, e2, h3, h4⟩ => by
    refine ⟨p, p', vs, ws, by rw [e1, e2], .inl ⟨SqL.of (g2.s _ _ (g2.b _ _ h1)), SqL.of (g2.s _ _ h3), q _ B2 H2 (g1.trans g2) fun i B3 H3 sm _ s1 => ?_⟩⟩
    have hq : SqL X.K H3 p vs := SqL.of (s1 _ _ (sm _ _ (g2.b _ _ h1)))
    have hq' : SqL X.K H3 p' ws := SqL.of (s1 _ _ (sm _ _ h3))
    have l1 := prd_len h2
    have l2 := prd_len h4
    rw [zip_len hl]
    refine ⟨fun hi => ?_, fun hi => ⟨vs, ws, hq, hq', .inl (by omega)⟩, fun x v H5 hx hy => ?_⟩
    · have hi1 : i < vs.length := by omega
      have hi2 : i < ws.length := by omega
      exact ⟨vs, ws, vs[i], ws[i], hq, hq', List.getElem?_eq_getElem hi1, List.getElem?_eq_getElem hi2⟩
    · obtain ⟨T, w1, w2, e3, hT, e4, hy1, hy2⟩ := hy
      subst e3 e4
      obtain ⟨hx1, hx2⟩ := zip_get hx
      obtain ⟨u1, k1, k2⟩ := prd_get h2 hx1
      obtain ⟨u2, k3, k4⟩ := prd_get h4 hx2
      have e5 : w1 = u1 := Option.some.inj ((hy1 vs hq).symm.trans k1)
      have e6 : w2 = u2 := Option.some.inj ((hy2 ws hq').symm.trans k3)
      subst e5 e6
      exact ⟨_, Go.new s1 hT, T, w1, w2, rfl, upd_same, R.mono (g2.b.trans (sm.trans (Go.new s1 hT).b)) k2, S.mono (sm.trans (Go.new s1 hT).b) k4⟩

/-! ### [elt for target in iter] -/
def wipeG (G : En) : List Nat → En
  | [] => G
  | v :: vs => (wipeG G vs).set v none
theorem Sat.forget (h : Sat O G σ B H) (i : Nat) : Sat O (G.set i none) (σ.set i none) B H := by
  refine ⟨h.o, by rw [List.length_set, List.length_set]; exact h.len, fun j c e => ?_⟩
  by_cases hj : i = j
  · subst hj
    by_cases hl : i < G.length
    · rw [List.getElem?_set_self hl] at e; cases e
    · rw [List.getElem?_eq_none (by simpa using hl)] at e; cases e
  · rw [List.getElem?_set_ne hj] at e
    obtain ⟨u, h1, h2⟩ := h.c j c e
    exact ⟨u, by rw [List.getElem?_set_ne hj]; exact h1, h2⟩
theorem Sat.wipe (h : Sat O G σ B H) : ∀ vs : List Nat, Sat O (wipeG G vs) (L2.wipe σ vs) B H
  | [] => h
  | v :: vs => (Sat.wipe h vs).forget v
theorem wipe_set {σ : L2.St} {i : Nat} {u : Option V} : ∀ {vs : List Nat}, i ∈ vs → L2.wipe (σ.set i u) vs = L2.wipe σ vs
  | v :: vs, h => by
    show (L2.wipe (σ.set i u) vs).set v none = (L2.wipe σ vs).set v none
    by_cases hi : i ∈ vs
    · rw [wipe_set hi]
    · have e : i = v := (List.mem_cons.mp h).resolve_right hi
      subst e
      apply List.ext_getElem?
      intro k
      by_cases hk : i = k
      · subst hk
        by_cases hl : i < σ.length
        · rw [List.getElem?_set_self (by rw [wipe_length, List.length_set]; exact hl), List.getElem?_set_self (by rw [wipe_length]; exact hl)]
        · rw [List.getElem?_eq_none (by rw [List.length_set, wipe_length, List.length_set]; omega), List.getElem?_eq_none (by rw [List.length_set, wipe_length]; omega)]
      · rw [List.getElem?_set_ne hk, List.getElem?_set_ne hk]
        have : ∀ ws : List Nat, (L2.wipe (σ.set i u) ws)[k]? = (L2.wipe σ ws)[k]? := by
          intro ws
          induction ws with
          | nil => exact List.getElem?_set_ne hk
          | cons w ws ih =>
            show ((L2.wipe (σ.set i u) ws).set w none)[k]? = ((L2.wipe σ ws).set w none)[k]?
            rw [List.getElem?_set, List.getElem?_set, ih, wipe_length, wipe_length, List.length_set]
        exact this vs
theorem wipe_setL {vs : List Nat} : ∀ {js : List Nat} {us : List V} {σ : L2.St}, (∀ j ∈ js, j ∈ vs) → L2.wipe (setL σ js us) vs = L2.wipe σ vs
  | [], _, σ, _ => by unfold setL; rfl
  | j :: js, [], σ, _ => by unfold setL; rfl
  | j :: js, u :: us, σ, h => by
    show L2.wipe (setL (σ.set j (some u)) js us) vs = _
    rw [wipe_setL fun k hk => h k (List.mem_cons_of_mem _ hk), wipe_set (h j List.mem_cons_self)]
theorem wipe_wipe {vs : List Nat} {σ : L2.St} : L2.wipe (L2.wipe σ vs) vs = L2.wipe σ vs := by
  have h : ∀ ws : List Nat, (∀ w ∈ ws, w ∈ vs) → L2.wipe (L2.wipe σ ws) vs = L2.wipe σ vs := by
    intro ws
    induction ws with
    | nil => intro _; rfl
    | cons w ws ih =>
      intro hw
      show L2.wipe ((L2.wipe σ ws).set w none) vs = _
      rw [wipe_set (hw w List.mem_cons_self), ih fun k hk => hw k (List.mem_cons_of_mem _ hk)]
  exact h vs fun _ h => h
abbrev BX (X : Cx) (sc : Scope) (p : Shared × Hp × Addr × List (Str × Addr) × List Addr) : Cx := X.blk p.1 p.2.1 sc (compEnvC sc p.2.2.2.1 p.2.2.1 X.env) p.2.2.2.2
/-- H without what stands at D -/
def less (H : Hp) (D : Addr) : Hp := fun a => if a = D then none else H a
theorem less_upd {H : Hp} {D : Addr} {o : HO} : less (upd H D o) D = less H D := by
  funext a
  unfold less upd
  split <;> rfl
theorem less_of_none {H : Hp} {D : Addr} (h : H D = none) : less H D = H := by
  funext a
  unfold less
  split
  · rename_i e; rw [e, h]
  · rfl
theorem go_less {B H B' H' : Hp} {D : Addr} (g : Go B H B' H') (hb : B D = none) (hh : H D ≠ none) : Go B (less H D) B' (less H' D) := by
  have hb' : B' D = none := g.f D hb hh
  refine ⟨g.b, fun x o e => ?_, fun x o e => ?_, fun p h1 h2 => g.f p h1 fun q => h2 ?_⟩
  · unfold less at e ⊢
    split at e
    · cases e
    · rename_i hx; rw [if_neg hx]; exact g.h x o e
  · have hx : x ≠ D := ne_of_none e hb'
    unfold less
    rw [if_neg hx]
    exact g.s x o e
  · unfold less
    split <;> first | rfl | exact q
theorem same_less {H : Hp} {D : Addr} : Same (less H D) H := fun x o e => by
  unfold less at e
  split at e
  · cases e
  · exact e
theorem go_unless {B H : Hp} {D : Addr} (s : Same B (less H D)) : Go B (less H D) B H := ⟨.refl _, same_less, s.trans same_less, fun _ h _ => h⟩
/-- a comprehension that makes ys -/
structure CL (X : Cx) (O : Ob B0 H0) (G : En) (elt tg iter : Expr) (ifs : List Expr) (sc : Scope) (S : Rp β) (ys : List β) : Prop where
  h : ∃ (own : List (Str × Nat)) (wi : TI) (g : TG) (tt : TT) (te : TE), X.calm = true ∧ X.N.Nodup ∧ PI X tg iter wi ∧ BlkOk X.N X.env.scope sc own ∧
    (∀ (s : Shared) (H : Hp) (C : Addr) (cl : List (Str × Addr)) (fp : List Addr), PG (X.blk s H sc (compEnvC sc cl C X.env) fp) tg g) ∧ (∀ (s : Shared) (H : Hp) (C : Addr) (cl : List (Str × Addr)) (fp : List Addr), PTs (X.blk s H sc (compEnvC sc cl C X.env) fp) ifs tt) ∧
    (∀ (s : Shared) (H : Hp) (C : Addr) (cl : List (Str × Addr)) (fp : List Addr), PE (X.blk s H sc (compEnvC sc cl C X.env) fp) elt te) ∧ (∀ x, foldedSetIterable iter X.env x = pure x) ∧
    ∀ (σ : L2.St) (B H : Hp), Sat O G σ B H → ∀ Q : VK, (∀ p vs B' H', Go B H B' H' → H p = none → B' p = none → H' p = some (.lst vs) → Paired (S.r B') vs ys → Q (.ref p) H') → tLc wi g tt te (own.map (·.2)) σ H Q
theorem CL.compF {P : Hp → Hp → Prop} {own : List (Str × Nat)} {sc : Scope} {xs : List α} {ifs : List Expr} (kp : α → Bool) (f : α → β) (hc : X.calm = true) (hN : X.N.Nodup) (hi : IT X O G tg iter P R xs) (hP : ∀ B H, O.p B H → P B H) (ok : BlkOk X.N X.env.scope sc own)
    (hg : ∀ p, Tg (BX X sc p) tg R js cs) (hj : ∀ j ∈ js, j ∈ own.map (·.2)) (hl : xs.length ≤ 10000)
    (ht : ∀ p, ∀ x ∈ xs, ∃ t, PTs (BX X sc p) ifs t ∧ ∀ (σ : L2.St) (B H : Hp), Sat O (setG (wipeG G (own.map (·.2))) js (cs x)) σ B H → ∀ Q : Bool → Hp → Prop, (∀ B' H', Go B H B' H' → Q (kp x) H') → t σ H Q)
    (he : ∀ p, ∀ x ∈ xs, kp x = true → E (BX X sc p) O (setG (wipeG G (own.map (·.2))) js (cs x)) e S (f x)) (hs : ∀ v, foldedSetIterable iter X.env v = pure v := by intro _; rfl) :
    CL X O G e tg iter ifs sc S ((xs.filter kp).map f) := by
  let gg : TG := fun v σ H Q => ∀ p, semG (BX X sc p) tg v σ H Q
  let tt : TT := fun σ H Q => ∀ p pins s, Inv (BX X sc p) pins σ H s → wpAny (model X.prog X.w) X.A (forIn ifs true fun c r => if r = true then do let ok ← isTrue c (BX X sc p).env (eval c (BX X sc p).env); pure (ForInStep.yield ok) else pure (ForInStep.yield r)) (TP (BX X sc p) pins σ Q) (BX X sc p).xe s
  let te : TE := fun σ H Q => ∀ p, semE (BX X sc p) e σ H Q
  refine ⟨own, _, gg, tt, te, hc, hN, semPI, ok,
    (fun s H C cl fp => ⟨fun pins s' σ H' v u Q I r h => h (s, H, C, cl, fp) pins s' u I r⟩), (fun s H C cl fp => ⟨fun pins s' σ H' Q I h => h (s, H, C, cl, fp) pins s' I⟩),
    (fun s H C cl fp => ⟨fun pins s' σ H' Q I h => h (s, H, C, cl, fp) pins s' I⟩), hs, fun σ B H s Q q => ?_⟩
  refine hi σ B H s _ fun J B' H' g k => ?_
  intro D hD
  have hbD : B' D = none := g.s.free hD
  refine ⟨fun i m H1 => m = xs.length - i ∧ i ≤ xs.length ∧ ∃ B1 acc, Go B' H' B1 (less H1 D) ∧ Same B1 H1 ∧ B1 D = none ∧ H1 D = some (.lst acc) ∧ Paired (S.r B1) acc (((xs.take i).filter kp).map f), ⟨xs.length, rfl, Nat.zero_le _, B', [], ?_, g.s.trans (same_new hD), hbD, upd_same, by simpa using Paired.nil⟩, ?_⟩
  · rw [less_upd, less_of_none hD]
    exact .refl g.s
  · rintro i m H1 ⟨rfl, hile, B1, acc, g1, s1, hb1, hD1, hacc⟩
    have sB : Same B' B1 := g1.b
    have go1 : Go B' H' B1 H1 := g1.trans (go_unless g1.s)
    have hO : O.p B1 H1 := O.st s.o (g.trans go1)
    obtain ⟨k1, k2, k3⟩ := k i B1 H1 sB (hP _ _ hO) s1
    by_cases hlt : i < xs.length
    · refine .inr ⟨k1 hlt, fun H2 => ∃ B2 acc, Go B' H' B2 (less H2 D) ∧ Same B2 H2 ∧ B2 D = none ∧ H2 D = some (.lst acc) ∧ Paired (S.r B2) acc (((xs.take (i + 1)).filter kp).map f), fun H2 h2 => ⟨xs.length - (i + 1), by omega, rfl, hlt, h2⟩, fun v H2 hy => ?_⟩
      have hx : xs[i]? = some xs[i] := List.getElem?_eq_getElem hlt
      have hmem : xs[i] ∈ xs := List.getElem_mem hlt
      obtain ⟨B2, g2, r2⟩ := k3 xs[i] v H2 hx hy
      have ss : Sat O G σ B2 H2 := s.go (g.trans (go1.trans g2))
      intro p
      refine (hg p).run v xs[i] _ B2 H2 r2 g2.s _ fun us hus => ?_
      refine ⟨by rw [wipe_setL hj, wipe_wipe], ?_⟩
      have sx : Sat O (setG (wipeG G (own.map (·.2))) js (cs xs[i])) (setL (L2.wipe σ (own.map (·.2))) js us) B2 H2 := (ss.wipe _).setL hus ((hg p).len _)
      intro p' pins' sh' I'
      obtain ⟨t, ht1, ht2⟩ := ht p' xs[i] hmem
      refine ht1.run pins' sh' _ H2 _ I' (ht2 _ B2 H2 sx _ fun B3 H3 g3 => ?_)
      have l3 : Go B1 (less H1 D) B3 (less H3 D) := go_less (g2.trans g3) hb1 (by rw [hD1]; exact fun z => nomatch z)
      have hb3 : B3 D = none := (g2.trans g3).f D hb1 (by rw [hD1]; exact fun z => nomatch z)
      have hD3 : H3 D = some (.lst acc) := g3.h _ _ (g2.h _ _ hD1)
      have tk : xs.take (i + 1) = xs.take i ++ [xs[i]] := by rw [List.take_add_one, hx]; rfl
      cases hk : kp xs[i] with
      | true =>
        refine iteT fun p2 => he p2 xs[i] hmem hk _ B3 H3 (sx.go g3) _ fun w B4 H4 g4 r4 => ?_
        have gg4 := (g2.trans g3).trans g4
        have l4 : Go B1 (less H1 D) B4 (less H4 D) := go_less gg4 hb1 (by rw [hD1]; exact fun z => nomatch z)
        have hb4 : B4 D = none := gg4.f D hb1 (by rw [hD1]; exact fun z => nomatch z)
        have hD4 : H4 D = some (.lst acc) := g4.h _ _ hD3
        have hln : acc.length ≤ 10000 := by
          rw [prd_len hacc, List.length_map]
          refine Nat.le_trans (List.length_filter_le _ _) ?_
          rw [List.length_take]
          omega
        refine ⟨acc, hD4, Nat.lt_of_le_of_lt hln (by decide), B4, acc ++ [w], ?_, ?_, hb4, upd_same, ?_⟩
        · rw [less_upd]
          exact g1.trans l4
        · exact (l4.s.trans fun x o e => by
            have hx : x ≠ D := fun z => by
              rw [z] at e
              unfold less at e
              rw [if_pos rfl] at e
              cases e
            rw [upd_ne hx]
            exact same_less x o e)
        · rw [tk, List.filter_append, List.map_append, List.filter_cons_of_pos hk]
          exact prd_app (prd_mono gg4.b hacc) (.cons r4 .nil)
      | false =>
        refine iteF ⟨B3, acc, g1.trans l3, g3.s, hb3, hD3, ?_⟩
        rw [tk, List.filter_append, List.map_append, List.filter_cons_of_neg (by rw [hk]; exact Bool.false_ne_true)]
        simpa using prd_mono (g2.trans g3).b hacc
    · have e1 : i = xs.length := by omega
      refine .inl ⟨k2 e1, q D acc B1 H1 (g.trans go1) (g.h.free hD) hb1 hD1 ?_⟩
      rw [e1, List.take_length] at hacc
      exact hacc
theorem CL.comp {P : Hp → Hp → Prop} {own : List (Str × Nat)} {sc : Scope} {xs : List α} (f : α → β) (hc : X.calm = true) (hN : X.N.Nodup) (hi : IT X O G tg iter P R xs) (hP : ∀ B H, O.p B H → P B H) (ok : BlkOk X.N X.env.scope sc own)
    (hg : ∀ p, Tg (BX X sc p) tg R js cs) (hj : ∀ j ∈ js, j ∈ own.map (·.2)) (hl : xs.length ≤ 10000)
    (he : ∀ p, ∀ x ∈ xs, E (BX X sc p) O (setG (wipeG G (own.map (·.2))) js (cs x)) e S (f x)) (hs : ∀ v, foldedSetIterable iter X.env v = pure v := by intro _; rfl) :
    CL X O G e tg iter [] sc S (xs.map f) := by
  have h := CL.compF (e := e) (S := S) (ifs := []) (fun _ => true) f hc hN hi hP ok hg hj hl (fun p x hx => ⟨_, pts_nil, fun σ B H s Q q => q B H s.refl⟩) (fun p x hx _ => he p x hx) hs
  rw [List.filter_eq_self.mpr (fun _ _ => rfl)] at h
  exact h
theorem CL.compT {P : Hp → Hp → Prop} {own : List (Str × Nat)} {sc : Scope} {xs : List α} (kp : α → Bool) (f : α → β) (hc : X.calm = true) (hN : X.N.Nodup) (hi : IT X O G tg iter P R xs) (hP : ∀ B H, O.p B H → P B H) (ok : BlkOk X.N X.env.scope sc own)
    (hg : ∀ p, Tg (BX X sc p) tg R js cs) (hj : ∀ j ∈ js, j ∈ own.map (·.2)) (hl : xs.length ≤ 10000)
    (ht : ∀ p, ∀ x ∈ xs, T (BX X sc p) O (setG (wipeG G (own.map (·.2))) js (cs x)) c (kp x))
    (he : ∀ p, ∀ x ∈ xs, kp x = true → E (BX X sc p) O (setG (wipeG G (own.map (·.2))) js (cs x)) e S (f x)) (hs : ∀ v, foldedSetIterable iter X.env v = pure v := by intro _; rfl) :
    CL X O G e tg iter [c] sc S ((xs.filter kp).map f) :=
  CL.compF kp f hc hN hi hP ok hg hj hl (fun p x hx => ⟨_, pts_one semPT, fun σ B H s Q q => ht p x hx σ B H s Q q⟩) he hs
theorem CL.el {ifs : List Expr} {sc : Scope} {ys : List β} (h : CL X O G e tg iter ifs sc S ys) : EL X O G (.ListComp e [⟨tg, iter, ifs, 0⟩] sc pos) S ys := by
  obtain ⟨own, wi, g, tt, te, h1, h2, h3, h4, h5, h6, h7, h8, h9⟩ := h.h
  exact EL.of (pe_lc h1 h2 h3 h4 h5 h6 h7 h8) h9
theorem CL.eq {ifs : List Expr} {sc : Scope} {ys zs : List β} (h : CL X O G e tg iter ifs sc S ys) (q : ys = zs) : CL X O G e tg iter ifs sc S zs := q ▸ h
end
end Tr

set_option maxHeartbeats 4000000
namespace Tr
open PySem L2

def semS (X : Cx) (ss : List Stmt) : TS := fun D σ H => ∀ (pins : List (Addr × Obj)) (s : Shared), Inv X pins σ H s → wpAny (model X.prog X.w) X.A (execs ss X.env) (SP X pins D) X.xe s
theorem semPSs {X : Cx} {ss : List Stmt} : PSs X ss (semS X ss) := ⟨fun pins s _ _ _ I h => h pins s I⟩
abbrev NXT := L2.St → Hp → Hp → Prop
abbrev RTT := V → Hp → Hp → Prop
section
variable {B0 H0 : Hp} {α β γ δ : Type}
/-- the statements run from G under O: at their end NX holds, at a return RT -/
def S (X : Cx) (O : Ob B0 H0) (G : En) (ss : List Stmt) (NX : NXT) (RT : RTT) : Prop :=
  ∀ (σ : L2.St) (B H : Hp), Sat O G σ B H → ∀ D : Ends, (∀ σ' B' H', Same B B' → NX σ' B' H' → D.nx σ' H') → (∀ v B' H', Same B B' → RT v B' H' → D.rt v H') → semS X ss D σ H
variable {X : Cx} {O O' : Ob B0 H0} {G : En} {e a b c tg iter : Expr} {es : List Expr} {ss rest : List Stmt} {R : Rp α} {S' : Rp β} {U : Rp γ} {x : α} {y : β} {z : γ} {pos p0 p1 p2 tpos : Pos} {i j : Int} {NX : NXT} {RT : RTT} {σ : L2.St} {B H : Hp} {js : List Nat} {cs : α → List Cell}

theorem S.of {t : TS} (h : PSs X ss t) (k : ∀ (σ : L2.St) (B H : Hp), Sat O G σ B H → ∀ D : Ends, (∀ σ' B' H', Same B B' → NX σ' B' H' → D.nx σ' H') → (∀ v B' H', Same B B' → RT v B' H' → D.rt v H') → t D σ H) : S X O G ss NX RT :=
  fun σ B H s D n r pins sh I => h.run pins sh σ H D I (k σ B H s D n r)
theorem S.nil (h : ∀ σ B H, Sat O G σ B H → NX σ B H) : S X O G [] NX RT :=
  S.of pss_nil fun σ B H s D n r => n σ B H (.refl _) (h σ B H s)
/-- the environment, the claim upon the heaps made weaker -/
theorem S.wk {G' : En} (w : Wk G G') (h : S X O G' ss NX RT) : S X O G ss NX RT := fun σ B H s => h σ B H (s.wk w)
theorem S.ob (w : ∀ B H, O.p B H → O'.p B H) (h : S X O' G ss NX RT) : S X O G ss NX RT := fun σ B H s => h σ B H (s.ob (w B H))
/-- the others behind the first -/
theorem S.seq {st : Stmt} {t : TS} (h : PS X st t) (k : ∀ (σ : L2.St) (B H : Hp), Sat O G σ B H → ∀ D : Ends, (∀ σ' B' H', Same B B' → NX σ' B' H' → D.nx σ' H') → (∀ v B' H', Same B B' → RT v B' H' → D.rt v H') → t { D with nx := semS X rest D } σ H) : S X O G (st :: rest) NX RT :=
  S.of (pss_cons h semPSs) k
theorem S.ret (he : E X O G e R x) (h : ∀ v B H, O.p B H → R.r B v x → RT v B H) : S X O G (.Return (some e) pos :: rest) NX RT :=
  S.seq (ps_ret semPE) fun σ B H s D n r => he σ B H s _ fun v B' H' g q => r v B' H' g.b (h v B' H' (s.go g).o q)
theorem Sat.run (h : S X O' G rest NX RT) {B' : Hp} {D : Ends} (sm : Same B B') (n : ∀ σ' B' H', Same B B' → NX σ' B' H' → D.nx σ' H') (r : ∀ v B' H', Same B B' → RT v B' H' → D.rt v H') {H' : Hp} (s : Sat O' G σ B' H') : semS X rest D σ H' :=
  h σ B' H' s D (fun σ1 B1 H1 e => n σ1 B1 H1 (sm.trans e)) (fun v B1 H1 e => r v B1 H1 (sm.trans e))
/-- name = e -/
theorem S.set (k : Nat) {n : Str} (he : E X O G e R x) (hN : X.N.Nodup) (h : S X O (G.set k (some ⟨R, x⟩)) rest NX RT) (hi : X.N[k]? = some n := by rfl) (hx : Loc X.env.scope n := by first | exact Or.inl rfl | exact Or.inr rfl)
    (hs : swapsWith e (some (.Name n p1)) pos.line X.env = pure false := by rfl) (hf : X.fn n = true ∨ X.env.scope.names.lookup n = some .local := by first | exact .inl rfl | exact .inr rfl) : S X O G (.Assign [.Name n p1] e pos :: rest) NX RT :=
  S.seq (ps_set (i := k) hN hi hx semPE hs hf) fun σ B H s D nx r => he σ B H s _ fun v B' H' g q => Sat.run h g.b nx r ((s.go g).set k q)
/-- name = [..], closed -/
theorem S.setC (k : Nat) {n : Str} {ifs : List Expr} {sc : Scope} {ys : List β} (hl : CL X O G e tg iter ifs sc S' ys) (hN : X.N.Nodup) (h : S X O (G.set k (some ⟨lstR S', ys⟩)) rest NX RT)
    (hsw : swapsWith (.ListComp e [⟨tg, iter, ifs, 0⟩] sc pos) (some (.Name n p1)) p0.line X.env = pure true) (hi : X.N[k]? = some n := by rfl) (hx : X.env.scope.names.lookup n = some .local := by rfl) : S X O G (.Assign [.Name n p1] (.ListComp e [⟨tg, iter, ifs, 0⟩] sc pos) p0 :: rest) NX RT := by
  obtain ⟨own, wi, g, tt, te, h1, h2, h3, h4, h5, h6, h7, h8, h9⟩ := hl.h
  refine S.seq (ps_setLc h1 hN hi hx hsw h3 h4 h5 h6 h7 h8) fun σ B H s D nx r => h9 σ B H s _ fun p vs B' H' g h0 hb hp q => ?_
  exact Sat.run h (g.frz h0 hb hp).b nx r ((s.go (g.frz h0 hb hp)).set (R := lstR S') k ⟨p, vs, rfl, upd_same, prd_mono (same_new hb) q⟩)
/-- what is open at p -/
theorem mo_new {p : Addr} {vs : List V} {xs : List α} {B' H' : Hp} (s : Sat (bo B0 H0) G σ B H) (g : Go B H B' H') (h0 : H p = none) (hb : B' p = none) (hp : H' p = some (.lst vs)) (q : Paired (R.r B') vs xs) : Sat (mo B0 H0 p R xs) G σ B' H' :=
  (s.go g).ob fun o => ⟨o, s.o.h.free h0, hb, vs, hp, q⟩
/-- name = [..], left open -/
theorem S.setCM (k : Nat) {n : Str} {ifs : List Expr} {sc : Scope} {ys : List β} (hl : CL X (bo B0 H0) G e tg iter ifs sc S' ys) (hN : X.N.Nodup) (h : ∀ p, S X (mo B0 H0 p S' ys) (G.set k (some ⟨adrR, p⟩)) rest NX RT)
    (hsw : swapsWith (.ListComp e [⟨tg, iter, ifs, 0⟩] sc pos) (some (.Name n p1)) p0.line X.env = pure true) (hi : X.N[k]? = some n := by rfl) (hx : X.env.scope.names.lookup n = some .local := by rfl) : S X (bo B0 H0) G (.Assign [.Name n p1] (.ListComp e [⟨tg, iter, ifs, 0⟩] sc pos) p0 :: rest) NX RT := by
  obtain ⟨own, wi, g, tt, te, h1, h2, h3, h4, h5, h6, h7, h8, h9⟩ := hl.h
  refine S.seq (ps_setLc h1 hN hi hx hsw h3 h4 h5 h6 h7 h8) fun σ B H s D nx r => h9 σ B H s _ fun p vs B' H' g h0 hb hp q => ?_
  exact Sat.run (h p) g.b nx r ((mo_new s g h0 hb hp q).set (R := adrR) (x := p) k rfl)
theorem S.setM (k : Nat) {n : Str} {ys : List β} (hl : EL X (bo B0 H0) G e S' ys) (hN : X.N.Nodup) (h : ∀ p, S X (mo B0 H0 p S' ys) (G.set k (some ⟨adrR, p⟩)) rest NX RT)
    (hi : X.N[k]? = some n := by rfl) (hx : Loc X.env.scope n := by first | exact Or.inl rfl | exact Or.inr rfl) (hs : swapsWith e (some (.Name n p1)) pos.line X.env = pure false := by rfl) (hf : X.fn n = true ∨ X.env.scope.names.lookup n = some .local := by first | exact .inl rfl | exact .inr rfl) : S X (bo B0 H0) G (.Assign [.Name n p1] e pos :: rest) NX RT :=
  S.seq (ps_set (i := k) hN hi hx semPE hs hf) fun σ B H s D nx r => hl σ B H s _ fun p vs B' H' g h0 hb hp q => Sat.run (h p) g.b nx r ((mo_new s g h0 hb hp q).set (R := adrR) (x := p) k rfl)
/-- the open one is closed -/
theorem S.frz {p : Addr} {xs : List α} (k : Nat) (hg : G[k]? = some (some ⟨adrR, p⟩)) (h : S X (bo B0 H0) (G.set k (some ⟨lstR R, xs⟩)) ss NX RT) : S X (mo B0 H0 p R xs) G ss NX RT := fun σ B H s D nx r => by
  obtain ⟨go, h0, hb, vs, hp, q⟩ := s.o
  have sm : Same B (upd B p (.lst vs)) := same_new hb
  have s2 : Sat (bo B0 H0) G σ (upd B p (.lst vs)) H := ⟨go.frz h0 hb hp, s.len, fun i c e => let ⟨v, h1, h2⟩ := s.c i c e; ⟨v, h1, c.R.mono sm h2⟩⟩
  obtain ⟨v, e1, e2⟩ := s.c k _ hg
  have e3 : v = .ref p := e2
  subst e3
  have s3 := s2.set (R := lstR R) (x := xs) k ⟨p, vs, rfl, upd_same, prd_mono sm q⟩
  have es : σ.set k (some (V.ref p)) = σ := by
    apply List.ext_getElem?
    intro j
    by_cases hj : k = j
    · subst hj
      rw [List.getElem?_set]
      have := (List.getElem?_eq_some_iff.mp e1).1
      rw [if_pos rfl, if_pos this, e1]
    · rw [List.getElem?_set_ne hj]
  rw [es] at s3
  exact Sat.run h sm nx r s3
/-- xs.append(e) -/
theorem S.app {p : Addr} {xs : List α} (k : Nat) {n : Str} {apos cpos : Pos} (hg : G[k]? = some (some ⟨adrR, p⟩)) (he : E X (mo B0 H0 p R xs) G e R x) (hlen : xs.length ≤ 10000) (h : S X (mo B0 H0 p R (xs ++ [x])) G rest NX RT)
    (ns : NS e := by exact fun _ _ => rfl) (hN : X.N[k]? = some n := by rfl) (hv : Vis X.env.scope n := by first | exact Or.inl rfl | exact Or.inr (Or.inl rfl) | exact Or.inr (Or.inr rfl)) (hd : (n == ("__debug__" : Str)) = false := by decide) (hcd : (n == ("__classdict__" : Str)) = false := by decide)
    (hbase : attributeBase (.Name n p1) "append" X.env (eval (.Name n p1) X.env) = eval (.Name n p1) X.env := by rfl)
    (hfew : ((backTo cpos (starEach [e] X.env)).all (fun x => !x.1) && (backToKw cpos (keywordEach [] X.env)).all (fun x => x.1.isSome)
      && decide ([e].length + ([] : List Keyword).length + (if ([] : List Keyword).isEmpty then 0 else 1) < 30)) = true := by rfl)
    (hline : (apos.endLine == cpos.line) = true := by rfl) (hsw : swapsWith (.Call (.Attribute (.Name n p1) "append" apos) [e] [] cpos) none pos.line X.env = pure false := by rfl) :
    S X (mo B0 H0 p R xs) G (.Expr (.Call (.Attribute (.Name n p1) "append" apos) [e] [] cpos) pos :: rest) NX RT := by
  refine S.seq (ps_expr (pe_bm PySem.F.plainAttrs_list PySem.F.slot_list_append PySem.F.type_list_append mt_append (pe_var hN hv hd hcd) (pa_ns ns) hbase hfew hline (ns _ _) rfl) hsw) fun σ B H s D nx r => ?_
  obtain ⟨v, e1, e2⟩ := s.c k _ hg
  have e3 : v = .ref p := e2
  subst e3
  obtain ⟨go, h0, hb, vs, hp, q⟩ := id s.o
  refine ⟨.ref p, e1, .inl ⟨rfl, vs, SqL.of hp⟩, ?_⟩
  refine he σ B H s _ fun w B1 H1 g1 r1 => ?_
  have hp1 := g1.h _ _ hp
  have s1 := s.go g1
  obtain ⟨go1, _, hb1, vs1, hp1', q1⟩ := id s1.o
  rw [hp1] at hp1'
  cases hp1'
  refine ⟨p, vs, w, rfl, rfl, hp1, Nat.lt_of_le_of_lt (by rw [prd_len q]; exact hlen) (by decide), ?_⟩
  exact Sat.run h g1.b nx r ⟨⟨go1.wr h0 hb1, h0, hb1, vs ++ [w], upd_same, prd_app q1 (.cons r1 .nil)⟩, s1.len, s1.c⟩
/-- an index of a list of n -/
theorem prd_ixN {F : V → α → Prop} {vs : List V} {xs : List α} (h : Paired F vs xs) {k : Int} {m : Nat} (e : ixN xs.length k = some m) : ixN vs.length k = some m := by rw [prd_len h]; exact e
/-- xs[i] = e -/
theorem S.sto {p : Addr} {xs : List α} {m : Nat} (k : Nat) {n : Str} (hg : G[k]? = some (some ⟨adrR, p⟩)) (he : E X (mo B0 H0 p R xs) G e R x) (hi : E X (mo B0 H0 p R xs) G a intR i) (hm : ixN xs.length i = some m) (h : S X (mo B0 H0 p R (xs.set m x)) G rest NX RT)
    (hN : X.N[k]? = some n := by rfl) (hv : Vis X.env.scope n := by first | exact Or.inl rfl | exact Or.inr (Or.inl rfl) | exact Or.inr (Or.inr rfl)) (hd : (n == ("__debug__" : Str)) = false := by decide) (hcd : (n == ("__classdict__" : Str)) = false := by decide)
    (hgs : ∀ {t : TSet}, PSet X t → PG X (.Subscript (.Name n p1) a tpos) (gSub (tVar k) (semE X a) t) := by intro t ht; exact pg_sub (pv _) semPE ht)
    (hs : swapsWithSole [.Subscript (.Name n p1) a tpos] e pos.line X.env = pure false := by rfl) (hw : swappedStores [.Subscript (.Name n p1) a tpos] e X.env = pure none := by rfl)
    (h1 : (assignEach [.Subscript (.Name n p1) a tpos] X.env).map (·.2) = [assign (.Subscript (.Name n p1) a tpos) X.env] := by rfl) :
    S X (mo B0 H0 p R xs) G (.Assign [.Subscript (.Name n p1) a tpos] e pos :: rest) NX RT := by
  refine S.seq (ps_asg semPE (hgs set_list) hs hw h1) fun σ B H s D nx r => he σ B H s _ fun w B1 H1 g1 r1 => ?_
  have s1 := s.go g1
  obtain ⟨v, e1, e2⟩ := s1.c k _ hg
  have e3 : v = .ref p := e2
  subst e3
  refine ⟨.ref p, e1, ?_⟩
  refine hi σ B1 H1 s1 _ fun w2 B2 H2 g2 r2 => ?_
  have s2 := s1.go g2
  obtain ⟨go2, h0, hb2, vs2, hp2, q2⟩ := id s2.o
  refine ⟨p, vs2, i, m, rfl, r2, hp2, prd_ixN q2 hm, ?_⟩
  exact Sat.run h (g1.trans g2).b nx r ⟨⟨go2.wr h0 hb2, h0, hb2, vs2.set m w, upd_same, prd_set (R.mono g2.b r1) m q2⟩, s2.len, s2.c⟩
/-- target = e -/
theorem S.asg (hg : Tg X tg R js cs) (he : E X O G e R x) (h : S X O (setG G js (cs x)) rest NX RT) (hs : swapsWithSole [tg] e pos.line X.env = pure false := by rfl) (hw : swappedStores [tg] e X.env = pure none := by rfl)
    (h1 : (assignEach [tg] X.env).map (·.2) = [assign tg X.env] := by rfl) : S X O G (.Assign [tg] e pos :: rest) NX RT :=
  S.seq (ps_asg semPE semPG hs hw h1) fun σ B H s D nx r => he σ B H s _ fun v B1 H1 g1 r1 => hg.run v x σ B1 H1 r1 g1.s _ fun us hus => Sat.run h g1.b nx r ((s.go g1).setL hus (hg.len x))
/-- a, b = e1, e2 with plain local names -/
theorem S.par {k l : Nat} {n m : Str} {px py pt pt2 : Pos} {kt k2 : Nat} (hc : X.calm = true) (hN : X.N.Nodup) (ha : E X O G a R x) (hb : E X O G b S' y) (h : S X O ((G.set k (some ⟨R, x⟩)).set l (some ⟨S', y⟩)) rest NX RT)
    (hi : X.N[k]? = some n := by rfl) (hj : X.N[l]? = some m := by rfl) (hij : k ≠ l := by decide) (hx : X.env.scope.names.lookup n = some .local := by rfl) (hy : X.env.scope.names.lookup m = some .local := by rfl)
    (hw : swappedStores [.Tuple [.Name n px, .Name m py] kt pt] (.Tuple [a, b] k2 pt2) X.env = pure (some [n, m]) := by rfl) (hs : swapsWithSole [.Tuple [.Name n px, .Name m py] kt pt] (.Tuple [a, b] k2 pt2) pos.line X.env = pure false := by rfl)
    (na : NS a := by exact fun _ _ => rfl) (nb : NS b := by exact fun _ _ => rfl) : S X O G (.Assign [.Tuple [.Name n px, .Name m py] kt pt] (.Tuple [a, b] k2 pt2) pos :: rest) NX RT :=
  S.seq (ps_par hc hN hi hj hij hx hy (pa2 na nb) hw hs) fun σ B H s D nx r => ha σ B H s _ fun v B1 H1 g1 r1 => hb σ B1 H1 (s.go g1) _ fun w B2 H2 g2 r2 =>
    ⟨v, w, rfl, Sat.run h (g1.trans g2).b nx r (((s.go (g1.trans g2)).set k (R.mono g2.b r1)).set l r2)⟩
/-- what holds behind some statements: one of a family -/
def Fam {ι : Type} (I : ι → Prop) (O : ι → Ob B0 H0) (G : ι → En) : NXT := fun σ B H => ∃ s, I s ∧ Sat (O s) (G s) σ B H
theorem S.fam {ι : Type} {I : ι → Prop} {Oi : ι → Ob B0 H0} {Gi : ι → En} (s : ι) (h : I s) : S X (Oi s) (Gi s) [] (Fam I Oi Gi) RT := S.nil fun σ B H t => ⟨s, h, t⟩
/-- the end of a turn, of a branch: by names and by the claim -/
theorem S.end' {ι : Type} {I : ι → Prop} {Oi : ι → Ob B0 H0} {Gi : ι → En} (s : ι) (h : I s) (w : Wk G (Gi s)) (ho : ∀ B H, O.p B H → (Oi s).p B H) : S X O G [] (Fam I Oi Gi) RT := S.nil fun σ B H t => ⟨s, h, (t.wk w).ob (ho B H)⟩
theorem S.ite {ι : Type} {k : Bool} {ss1 ss2 : List Stmt} (I : ι → Prop) (Oi : ι → Ob B0 H0) (Gi : ι → En) (ht : T X O G c k) (h1 : k = true → S X O G ss1 (Fam I Oi Gi) RT) (h2 : k = false → S X O G ss2 (Fam I Oi Gi) RT) (hr : ∀ s, I s → S X (Oi s) (Gi s) rest NX RT) :
    S X O G (.If c ss1 ss2 pos :: rest) NX RT :=
  S.seq (ps_if semPT semPSs semPSs) fun σ B H s D nx r => ht σ B H s _ fun B1 H1 g1 => by
    have fin : ∀ σ' B' H', Same B1 B' → Fam I Oi Gi σ' B' H' → semS X rest D σ' H' := fun σ' B' H' sm ⟨t, i, st⟩ => Sat.run (hr t i) (g1.b.trans sm) nx r st
    cases k with
    | true => exact iteT (h1 rfl σ B1 H1 (s.go g1) { D with nx := semS X rest D } fin fun a b c d => r a b c (g1.b.trans d))
    | false => exact iteF (h2 rfl σ B1 H1 (s.go g1) { D with nx := semS X rest D } fin fun a b c d => r a b c (g1.b.trans d))
/-- an if whose yes returns, without an else -/
theorem S.ifr {k : Bool} {ss1 : List Stmt} (ht : T X O G c k) (h1 : k = true → S X O G ss1 (fun _ _ _ => False) RT) (h2 : k = false → S X O G rest NX RT) : S X O G (.If c ss1 [] pos :: rest) NX RT :=
  S.seq (ps_if semPT semPSs pss_nil) fun σ B H s D nx r => ht σ B H s _ fun B1 H1 g1 => by
    cases k with
    | true => exact iteT (h1 rfl σ B1 H1 (s.go g1) { D with nx := semS X rest D } (fun _ _ _ _ f => f.elim) fun a b c d => r a b c (g1.b.trans d))
    | false => exact iteF (Sat.run (h2 rfl) g1.b nx r (s.go g1))
/-- an if without an else that goes on -/
theorem S.ifn {ι : Type} {k : Bool} {ss1 : List Stmt} (I : ι → Prop) (Oi : ι → Ob B0 H0) (Gi : ι → En) (ht : T X O G c k) (h1 : k = true → S X O G ss1 (Fam I Oi Gi) RT) (h2 : k = false → ∃ s, I s ∧ Wk G (Gi s) ∧ ∀ B H, O.p B H → (Oi s).p B H) (hr : ∀ s, I s → S X (Oi s) (Gi s) rest NX RT) : S X O G (.If c ss1 [] pos :: rest) NX RT :=
  S.seq (ps_if semPT semPSs pss_nil) fun σ B H s D nx r => ht σ B H s _ fun B1 H1 g1 => by
    have fin : ∀ σ' B' H', Same B1 B' → Fam I Oi Gi σ' B' H' → semS X rest D σ' H' := fun σ' B' H' sm ⟨t, i, st⟩ => Sat.run (hr t i) (g1.b.trans sm) nx r st
    cases k with
    | true => exact iteT (h1 rfl σ B1 H1 (s.go g1) { D with nx := semS X rest D } fin fun a b c d => r a b c (g1.b.trans d))
    | false =>
      obtain ⟨t, i, w, ho⟩ := h2 rfl
      exact iteF (Sat.run (hr t i) g1.b nx r (((s.go g1).wk w).ob (ho _ _)))
/-- for -/
theorem S.for {ι : Type} {P : Hp → Hp → Prop} {xs : List α} {body : List Stmt} (I : Nat → ι → Prop) (Oi : ι → Ob B0 H0) (Gi : ι → En) (hc : X.calm = true) (hi : IT X O G tg iter P R xs) (hg : Tg X tg R js cs)
    (s0 : ι) (h0 : I 0 s0) (hw : Wk G (Gi s0)) (ho : ∀ B H, O.p B H → (Oi s0).p B H) (hP : ∀ s B H, (Oi s).p B H → P B H)
    (hb : ∀ i x s, xs[i]? = some x → I i s → S X (Oi s) (setG (Gi s) js (cs x)) body (Fam (I (i + 1)) Oi Gi) RT) (hr : ∀ s, I xs.length s → S X (Oi s) (Gi s) rest NX RT)
    (hp : PassesOwn (model X.prog X.w) X.A X.env X.xe := by exact PassesOwn.never) (hs : ∀ v, foldedSetIterable iter X.env v = pure v := by intro _; rfl) : S X O G (.For tg iter body [] pos :: rest) NX RT :=
  S.seq (ps_for hp hc semPI semPG semPSs hs) fun σ B H s D nx r => hi σ B H s _ fun J B' H' g k => by
    refine ⟨fun i m σ1 H1 => m = xs.length - i ∧ i ≤ xs.length ∧ ∃ B1 t, Same B' B1 ∧ I i t ∧ Sat (Oi t) (Gi t) σ1 B1 H1, ⟨xs.length, rfl, Nat.zero_le _, B', s0, .refl _, h0, ((s.go g).wk hw).ob (ho _ _)⟩, ?_⟩
    rintro i m σ1 H1 ⟨rfl, hle, B1, t, sm, hI, st⟩
    obtain ⟨k1, k2, k3⟩ := k i B1 H1 sm (hP t _ _ st.o) st.sm
    by_cases hlt : i < xs.length
    · refine .inr ⟨k1 hlt, fun σ2 H2 => ∃ B2 t, Same B' B2 ∧ I (i + 1) t ∧ Sat (Oi t) (Gi t) σ2 B2 H2, fun σ2 H2 h2 => ⟨xs.length - (i + 1), by omega, rfl, hlt, h2⟩, fun v H2 hy => ?_⟩
      have hx : xs[i]? = some xs[i] := List.getElem?_eq_getElem hlt
      obtain ⟨B2, g2, r2⟩ := k3 xs[i] v H2 hx hy
      refine hg.run v xs[i] σ1 B2 H2 r2 g2.s _ fun us hus => ?_
      exact hb i xs[i] t hx hI _ B2 H2 ((st.go g2).setL hus (hg.len _)) _ (fun σ3 B3 H3 e ⟨t', i', s'⟩ => ⟨B3, t', (sm.trans g2.b).trans e, i', s'⟩) (fun v B3 H3 e q => r v B3 H3 (((g.b.trans sm).trans g2.b).trans e) q)
    · have e1 : i = xs.length := by omega
      subst e1
      exact .inl ⟨k2 rfl, Sat.run (hr t hI) (g.b.trans sm) nx r st⟩
/-- while -/
theorem S.while {ι : Type} {body : List Stmt} (I : ι → Prop) (μ : ι → Nat) (Oi : ι → Ob B0 H0) (Gi : ι → En) (b : ι → Bool) (s0 : ι) (h0 : I s0) (hw : Wk G (Gi s0)) (ho : ∀ B H, O.p B H → (Oi s0).p B H)
    (ht : ∀ s, I s → T X (Oi s) (Gi s) c (b s)) (hb : ∀ s, I s → b s = true → S X (Oi s) (Gi s) body (Fam (fun t => I t ∧ μ t < μ s) Oi Gi) RT) (hr : ∀ s, I s → b s = false → S X (Oi s) (Gi s) rest NX RT)
    (hp : PassesOwn (model X.prog X.w) X.A X.env X.xe := by exact PassesOwn.never) : S X O G (.While c body [] pos :: rest) NX RT :=
  S.seq (ps_while hp semPT semPSs) fun σ B H s D nx r => by
    refine ⟨fun m σ1 H1 => ∃ B1 t, m = μ t ∧ Same B B1 ∧ I t ∧ Sat (Oi t) (Gi t) σ1 B1 H1, ⟨μ s0, B, s0, rfl, .refl _, h0, (s.wk hw).ob (ho _ _)⟩, ?_⟩
    rintro m σ1 H1 ⟨B1, t, rfl, sm, hI, st⟩
    refine ht t hI σ1 B1 H1 st _ fun B2 H2 g2 => ?_
    cases hk : b t with
    | true =>
      refine iteT ⟨fun σ2 H2 => ∃ B2 t', μ t' < μ t ∧ Same B B2 ∧ I t' ∧ Sat (Oi t') (Gi t') σ2 B2 H2, fun σ2 H2 ⟨B2, t', h1, h2, h3, h4⟩ => ⟨μ t', h1, B2, t', rfl, h2, h3, h4⟩, ?_⟩
      exact hb t hI hk _ B2 H2 (st.go g2) _ (fun σ3 B3 H3 e ⟨t', ⟨i', hlt⟩, s'⟩ => ⟨B3, t', hlt, (sm.trans g2.b).trans e, i', s'⟩) (fun v B3 H3 e q => r v B3 H3 ((sm.trans g2.b).trans e) q)
    | false => exact iteF (Sat.run (hr t hI hk) (sm.trans g2.b) nx r (st.go g2))
/-- xs[i], xs[j] = e1, e2 -/
theorem S.sto2 {p : Addr} {xs : List α} {m m2 : Nat} {x2 : α} (k : Nat) {n : Str} {kt k2 : Nat} {pt pt2 t1 t2 n1 n2 : Pos} {a2 e2 : Expr} {j2 : Int} (hg : G[k]? = some (some ⟨adrR, p⟩)) (hc : X.calm = true)
    (he : E X (mo B0 H0 p R xs) G e R x) (he2 : E X (mo B0 H0 p R xs) G e2 R x2) (hi : E X (mo B0 H0 p R xs) G a intR i) (hm : ixN xs.length i = some m) (hi2 : E X (mo B0 H0 p R (xs.set m x)) G a2 intR j2) (hm2 : ixN xs.length j2 = some m2)
    (h : S X (mo B0 H0 p R ((xs.set m x).set m2 x2)) G rest NX RT) (na : NS e := by exact fun _ _ => rfl) (nb : NS e2 := by exact fun _ _ => rfl)
    (hN : X.N[k]? = some n := by rfl) (hv : Vis X.env.scope n := by first | exact Or.inl rfl | exact Or.inr (Or.inl rfl) | exact Or.inr (Or.inr rfl)) (hd : (n == ("__debug__" : Str)) = false := by decide) (hcd : (n == ("__classdict__" : Str)) = false := by decide)
    (hgs : ∀ {t : TSet}, PSet X t → PG X (.Subscript (.Name n n1) a t1) (gSub (tVar k) (semE X a) t) := by intro t ht; exact pg_sub (pv _) semPE ht) (hgs2 : ∀ {t : TSet}, PSet X t → PG X (.Subscript (.Name n n2) a2 t2) (gSub (tVar k) (semE X a2) t) := by intro t ht; exact pg_sub (pv _) semPE ht)
    (hn : (assignEach [.Subscript (.Name n n1) a t1, .Subscript (.Name n n2) a2 t2] X.env).length = 2 := by rfl) (hst : (assignEach [.Subscript (.Name n n1) a t1, .Subscript (.Name n n2) a2 t2] X.env).findIdx? (·.1) = none := by rfl)
    (hs : swapsWithSole [.Tuple [.Subscript (.Name n n1) a t1, .Subscript (.Name n n2) a2 t2] kt pt] (.Tuple [e, e2] k2 pt2) pos.line X.env = pure false := by rfl) (hw : swappedStores [.Tuple [.Subscript (.Name n n1) a t1, .Subscript (.Name n n2) a2 t2] kt pt] (.Tuple [e, e2] k2 pt2) X.env = pure none := by rfl)
    (h1 : (assignEach [.Tuple [.Subscript (.Name n n1) a t1, .Subscript (.Name n n2) a2 t2] kt pt] X.env).map (·.2) = [assign (.Tuple [.Subscript (.Name n n1) a t1, .Subscript (.Name n n2) a2 t2] kt pt) X.env] := by rfl) :
    S X (mo B0 H0 p R xs) G (.Assign [.Tuple [.Subscript (.Name n n1) a t1, .Subscript (.Name n n2) a2 t2] kt pt] (.Tuple [e, e2] k2 pt2) pos :: rest) NX RT := by
  refine S.seq (ps_asg (pe_tup (pa2 na nb)) (pg_tup (n := 2) hc (pgs_cons (hgs set_list) (pgs_cons (hgs2 set_list) pgs_nil)) hn hst) hs hw h1) fun σ B H s D nx r => ?_
  refine he σ B H s _ fun w B1 H1 g1 r1 => ?_
  refine he2 σ B1 H1 (s.go g1) _ fun w2 B2 H2 g2 r2 => ?_
  refine ⟨by show 2 ≤ sizeLine; decide, fun q hq => ?_⟩
  have gn := Go.new (o := .tup [w, w2]) g2.s hq
  have g3 := (g1.trans g2).trans gn
  have s3 := s.go g3
  obtain ⟨v, e1, ev⟩ := s3.c k _ hg
  have e3 : v = .ref p := ev
  subst e3
  refine ⟨q, [w, w2], rfl, SqT.of upd_same, rfl, w, [w2], rfl, ?_⟩
  refine ⟨.ref p, e1, ?_⟩
  refine hi σ _ _ s3 _ fun u4 B4 H4 g4 r4 => ?_
  have s4 := s3.go g4
  obtain ⟨go4, h0, hb4, vs4, hp4, q4⟩ := id s4.o
  refine ⟨p, vs4, i, m, rfl, r4, hp4, prd_ixN q4 hm, ?_⟩
  have s5 : Sat (mo B0 H0 p R (xs.set m x)) G σ B4 (upd H4 p (.lst (vs4.set m w))) := ⟨⟨go4.wr h0 hb4, h0, hb4, vs4.set m w, upd_same, prd_set (R.mono ((g2.trans gn).trans g4).b r1) m q4⟩, s4.len, s4.c⟩
  refine ⟨w2, [], rfl, ?_⟩
  refine ⟨.ref p, e1, ?_⟩
  refine hi2 σ _ _ s5 _ fun u6 B6 H6 g6 r6 => ?_
  have s6 := s5.go g6
  obtain ⟨go6, _, hb6, vs6, hp6, q6⟩ := id s6.o
  refine ⟨p, vs6, j2, m2, rfl, r6, hp6, prd_ixN q6 (by rw [List.length_set]; exact hm2), rfl, ?_⟩
  exact Sat.run h (((g3.trans g4).b).trans g6.b) nx r ⟨⟨go6.wr h0 hb6, h0, hb6, vs6.set m2 w2, upd_same, prd_set (R.mono ((gn.b.trans g4.b).trans g6.b) r2) m2 q6⟩, s6.len, s6.c⟩
end
end Tr

set_option maxHeartbeats 4000000
namespace Tr
open PySem L2
/-- the slots at a def's start -/
def gst (N : List Str) (cs : List Cell) : En := cs.map some ++ List.replicate (N.length - cs.length) none
theorem fit_len {B : Hp} : ∀ {vs : List V} {cs : List Cell}, Fit B vs cs → vs.length = cs.length
  | _, _, .nil => rfl
  | _, _, .cons _ t => by rw [List.length_cons, List.length_cons, fit_len t]
theorem fit_get {B : Hp} : ∀ {vs : List V} {cs : List Cell} {i : Nat} {c : Cell}, Fit B vs cs → cs[i]? = some c → ∃ v, vs[i]? = some v ∧ c.R.r B v c.x
  | _, _, _, _, .nil, e => by simp at e
  | _, _, 0, _, .cons r _, e => by simp at e; subst e; exact ⟨_, rfl, r⟩
  | _, _, i + 1, c, .cons _ t, e => by
    obtain ⟨u, h1, h2⟩ := fit_get (i := i) (c := c) t (by simpa using e)
    exact ⟨u, by simpa using h1, h2⟩
theorem sat_start {B0 H0 : Hp} {O : Ob B0 H0} {N : List Str} {vs : List V} {cs : List Cell} {B H : Hp} (f : Fit B vs cs) (ho : O.p B H) : Sat O (gst N cs) (L2.start N vs) B H := by
  have hl := fit_len f
  refine ⟨ho, ?_, fun i c e => ?_⟩
  · unfold gst L2.start
    rw [List.length_append, List.length_append, List.length_map, List.length_map, List.length_replicate, List.length_replicate, hl]
  · unfold gst at e
    unfold L2.start
    by_cases hi : i < cs.length
    · rw [List.getElem?_append_left (by rw [List.length_map]; exact hi), List.getElem?_map] at e
      rw [List.getElem?_append_left (by rw [List.length_map, hl]; exact hi), List.getElem?_map]
      cases q : cs[i]? with
      | none => rw [q] at e; cases e
      | some c' =>
        rw [q] at e
        cases e
        obtain ⟨v, h1, h2⟩ := fit_get f q
        exact ⟨v, by rw [h1]; rfl, h2⟩
    · rw [List.getElem?_append_right (by rw [List.length_map]; omega)] at e
      have := List.getElem?_eq_some_iff.mp e
      obtain ⟨h1, h2⟩ := this
      rw [List.getElem_replicate] at h2
      cases h2
/-- arguments and the cells that they make -/
structure Ar {α : Type} (Ra : Rps α) (n : Nat) (cs : α → List Cell) : Prop where
  h : ∀ (B : Hp) (vs : List V) (a : α), Ra.r B vs a → Fit B vs (cs a) ∧ vs.length = n
section
variable {α β γ δ ε : Type}
theorem ar1 {R : Rp α} : Ar (a1 R) 1 (fun a => [⟨R, a⟩]) := ⟨fun B vs a ⟨u, h1, h2⟩ => by subst h1; exact ⟨.cons h2 .nil, rfl⟩⟩
theorem ar2 {R : Rp α} {S : Rp β} : Ar (a2 R S) 2 (fun a => [⟨R, a.1⟩, ⟨S, a.2⟩]) := ⟨fun B vs a ⟨u, v, h1, h2, h3⟩ => by subst h1; exact ⟨.cons h2 (.cons h3 .nil), rfl⟩⟩
theorem ar3 {R : Rp α} {S : Rp β} {T : Rp γ} : Ar (a3 R S T) 3 (fun a => [⟨R, a.1⟩, ⟨S, a.2.1⟩, ⟨T, a.2.2⟩]) := ⟨fun B vs a ⟨u, v, w, h1, h2, h3, h4⟩ => by subst h1; exact ⟨.cons h2 (.cons h3 (.cons h4 .nil)), rfl⟩⟩
variable {P : Program} {w : World} {K : PySem.W.Frag} {mg : Str → Option Value} {base : Heap}
/-- what a pure def hands back -/
def rtP (B0 H0 : Hp) (R : Rp β) (y : β) : RTT := fun v B H => Go B0 H0 B H ∧ R.r B v y
/-- the context of a def's body -/
abbrev CxB (P : Program) (w : World) (K : PySem.W.Frag) (mg : Str → Option Value) (base : Heap) (N : List Str) (qual : Str) (st : Stmt) (f : Addr) (cdv : Value) (A : Around) (outer : List Env) (s : Shared) (H : Hp) (E : XK) : Cx := (cxOf CX0 P w K mg base N qual (defScope st) f cdv A outer s H E).nox
theorem pure_ok {x qual : Str} {st : Stmt} {f : Addr} {fd : FuncData} {N ps : List Str} {k : Nat} {Ra : Rps α} {R : Rp β} {pre : α → Prop} {g : α → β} {n : Nat} {cs : α → List Cell} (F : Fun K x qual st f fd) (sc : FnScope N ps (defScope st)) (ar : Ar Ra n cs) (hn : ps.length = n)
    (h : ∀ (cdv : Value) (A : Around) (outer : List Env) (s : Shared) (H0 B0 : Hp) (E : XK) (a : α), Room k (A.deeper (PyProof.Rows.envOfC qual (defScope st) s.heap.objs.size f cdv)) → pre a →
      S (CxB P w K mg base N qual st f cdv A outer s H0 E) (bo B0 H0) (gst N (cs a)) (defBody st) (fun _ _ _ => False) (rtP B0 H0 R (g a))) : FnOk P w K mg base CX0 (k + 1) f fd ps (Pure Ra R pre g) := by
  refine F.ok sc (fun vs H Q E hs => ?_) (fun cdv A outer s H vs Q E hr hs => ?_)
  · obtain ⟨B, a, _, h1, _⟩ := hs
    rw [(ar.h B vs a h1).2, hn]
  · obtain ⟨B, a, sm, h1, h2, h3⟩ := hs
    refine ⟨_, semPSs, ?_⟩
    exact h cdv A outer s H B E a hr h2 _ B H (sat_start (O := bo B H) (ar.h B vs a h1).1 (Go.refl sm)) _ (fun _ _ _ _ z => z.elim) fun v B' H' _ ⟨g1, g2⟩ => h3 v B' H' g1 g2
theorem pure_ok1 {x qual : Str} {st : Stmt} {f : Addr} {fd : FuncData} {N ps : List Str} {k : Nat} {R : Rp α} {S1 : Rp β} {pre : α → Prop} {g : α → β} (F : Fun K x qual st f fd) (sc : FnScope N ps (defScope st)) (hn : ps.length = 1)
    (h : ∀ (cdv : Value) (A : Around) (outer : List Env) (s : Shared) (H0 B0 : Hp) (E : XK) (a : α), Room k (A.deeper (PyProof.Rows.envOfC qual (defScope st) s.heap.objs.size f cdv)) → pre a →
      S (CxB P w K mg base N qual st f cdv A outer s H0 E) (bo B0 H0) (gst N [⟨R, a⟩]) (defBody st) (fun _ _ _ => False) (rtP B0 H0 S1 (g a))) : FnOk P w K mg base CX0 (k + 1) f fd ps (Pur1 R S1 pre g) :=
  pure_ok F sc ar1 hn h
theorem pure_ok2 {x qual : Str} {st : Stmt} {f : Addr} {fd : FuncData} {N ps : List Str} {k : Nat} {R : Rp α} {U : Rp γ} {S1 : Rp β} {pre : α → γ → Prop} {g : α → γ → β} (F : Fun K x qual st f fd) (sc : FnScope N ps (defScope st)) (hn : ps.length = 2)
    (h : ∀ (cdv : Value) (A : Around) (outer : List Env) (s : Shared) (H0 B0 : Hp) (E : XK) (a : α) (c : γ), Room k (A.deeper (PyProof.Rows.envOfC qual (defScope st) s.heap.objs.size f cdv)) → pre a c →
      S (CxB P w K mg base N qual st f cdv A outer s H0 E) (bo B0 H0) (gst N [⟨R, a⟩, ⟨U, c⟩]) (defBody st) (fun _ _ _ => False) (rtP B0 H0 S1 (g a c))) : FnOk P w K mg base CX0 (k + 1) f fd ps (Pur2 R U S1 pre g) :=
  pure_ok F sc ar2 hn fun cdv A outer s H0 B0 E a hr hp => h cdv A outer s H0 B0 E a.1 a.2 hr hp
theorem pure_ok3 {x qual : Str} {st : Stmt} {f : Addr} {fd : FuncData} {N ps : List Str} {k : Nat} {R : Rp α} {U : Rp γ} {W : Rp δ} {S1 : Rp β} {pre : α → γ → δ → Prop} {g : α → γ → δ → β} (F : Fun K x qual st f fd) (sc : FnScope N ps (defScope st)) (hn : ps.length = 3)
    (h : ∀ (cdv : Value) (A : Around) (outer : List Env) (s : Shared) (H0 B0 : Hp) (E : XK) (a : α) (c : γ) (d : δ), Room k (A.deeper (PyProof.Rows.envOfC qual (defScope st) s.heap.objs.size f cdv)) → pre a c d →
      S (CxB P w K mg base N qual st f cdv A outer s H0 E) (bo B0 H0) (gst N [⟨R, a⟩, ⟨U, c⟩, ⟨W, d⟩]) (defBody st) (fun _ _ _ => False) (rtP B0 H0 S1 (g a c d))) : FnOk P w K mg base CX0 (k + 1) f fd ps (Pur3 R U W S1 pre g) :=
  pure_ok F sc ar3 hn fun cdv A outer s H0 B0 E a hr hp => h cdv A outer s H0 B0 E a.1 a.2.1 a.2.2 hr hp
theorem Df.mono {j k : Nat} {x : Str} {ps : List Str} {sp : Sp} (D : Df P w K mg base j x ps sp) (h : j ≤ k) : Df P w K mg base k x ps sp := by
  obtain ⟨f, fd, F, r⟩ := D.h
  exact ⟨f, fd, F.mono h, r⟩
end
end Tr

set_option maxHeartbeats 4000000
namespace Tr
open PySem L2
open PyProof.Rows in
theorem tmul1 (l : Addr) (items : Array Value) (n : Nat) (dd : Option Addr) (sl : Array (Option Value)) (u : Tok) :
    Meets (Builtin.«tuple.__mul__» ⟨[.ref l, .int 1 u], []⟩) (fun _ R s => s.heap.get? l = some { cls := .type "tuple", dict := dd, data := .seq items n, slots := sl } ∧ R (.ok (.ret (Value.ref l))) s) :=
  .of_wp fun prog w A R s h => by
    obtain ⟨hp, gs, dr, tk, os⟩ := s
    obtain ⟨hl, h⟩ := h
    have f1 := AutoSeq1.idx_int
    wp_walk using wpAny_loadPart' hl
    repeat (first
      | (refine wpAny_ite_false (decide_eq_false (by decide)) ?_; wp_walk using wpAny_loadPart' hl)
      | (refine wpAny_ite_true (decide_eq_true (by simp)) ?_; wp_walk using wpAny_loadPart' hl))
    exact ⟨_, rfl, h⟩
open PyProof.Rows in
theorem tmul0 (l : Addr) (items : Array Value) (n : Nat) (dd : Option Addr) (sl : Array (Option Value)) (x : Int) (u : Tok) (h0 : x ≤ 0) (h1 : -(2 ^ 63) ≤ x) (hi : items.isEmpty = false) :
    Meets (Builtin.«tuple.__mul__» ⟨[.ref l, .int x u], []⟩) (fun _ R s => s.heap.get? l = some { cls := .type "tuple", dict := dd, data := .seq items n, slots := sl } ∧
      R (.ok (.ret (Value.ref s.heap.objs.size))) { s with heap := s.heap.push { cls := Value.type "tuple", data := Data.seq #[] }, toks := s.toks }) :=
  .of_wp fun prog w A R s h => by
    obtain ⟨hp, gs, dr, tk, os⟩ := s
    obtain ⟨hl, h⟩ := h
    have f1 := AutoSeq1.idx_int
    have c0 : (decide (x < -(2 ^ 63)) || decide (x ≥ 2 ^ 63)) = false := by
      rw [decide_eq_false (by omega), decide_eq_false (by omega)] <;> rfl
    have c1 : (items.isEmpty || x == 1) = false := by
      rw [hi, Bool.false_or]
      exact beq_eq_false_iff_ne.mpr (by omega)
    have c2 : (decide (x ≤ 0) || items.isEmpty) = true := by
      rw [decide_eq_true h0, Bool.true_or]
    wp_walk using wpAny_loadPart' hl
    repeat (first
      | (refine wpAny_ite_false (decide_eq_false (by rw [c0]; exact Bool.false_ne_true)) ?_; wp_walk using wpAny_loadPart' hl)
      | (refine wpAny_ite_false (decide_eq_false (by rw [c1]; exact Bool.false_ne_true)) ?_; wp_walk using wpAny_loadPart' hl)
      | (refine wpAny_ite_true (decide_eq_true c2) ?_; wp_walk using wpAny_loadPart' hl))
    exact ⟨_, rfl, h⟩

/-- the built-in names that no module's name covers -/
structure Bi (mg : Str → Option Value) : Prop where
  abs : mg "abs" = none
  sum : mg "sum" = none
  all : mg "all" = none
  any : mg "any" = none
  max : mg "max" = none
  len : mg "len" = none
  int : mg "int" = none
  bool : mg "bool" = none
  str : mg "str" = none
  zip : mg "zip" = none
  range : mg "range" = none
  tuple : mg "tuple" = none
  list : mg "list" = none
  enumerate : mg "enumerate" = none
  reversed : mg "reversed" = none
  isinstance : mg "isinstance" = none
def rMulA (K : PySem.W.Frag) : R2 := fun x y H Q => ∃ l k xs, x = .ref l ∧ y = .int k ∧ H l = some (.tup xs) ∧ xs ≠ [] ∧ 0 ≤ k ∧ k ≤ 1000 ∧ xs.length ≤ 1000 ∧ (k = 1 → Q (.ref l) H) ∧ (k ≠ 1 → ∀ p, H p = none → Q (.ref p) (upd H p (.tup (List.replicate k.toNat xs).flatten)))
section
variable {X : Cx}
open PyProof.Rows in
theorem op_mulT : OpR X (binaryOp .Mult) (rMulA X.K) := by
  intro pins s σ H x y v u Q I rx ry h
  obtain ⟨l, k, xs, rfl, rfl, hT, hne, h0, h1, hz, q1, q2⟩ := h
  by_cases k2 : 2 ≤ k
  · exact op_repT pins s σ H _ _ v u Q I rx ry ⟨l, k, xs, rfl, rfl, SqT.of hT, hne, k2, h1, hz, q2 (by omega)⟩
  cases rx
  obtain ⟨t, rfl⟩ := ry
  obtain ⟨its, r, ⟨⟨cls, dd, data, sl⟩, ho, hc, n, hd⟩, hs⟩ := I.tuple (SqT.of hT)
  simp only at hc hd
  subst hc hd
  have hi : its.toArray.isEmpty = false := by
    cases r with
    | nil => exact absurd rfl hne
    | cons _ _ => rfl
  by_cases k1 : k = 1
  · subst k1
    refine wpAny_binaryOp_repeat_ref (T := "tuple") (U := "int") (by decide) ⟨_, ho, rfl⟩ (fun s' => typeIs_int s' 1 t) noFill_tuple_mul F.fills_int_mul F.slot_int_rmul repeat_tuple F.slot_int_index.lookup
      (call_meets F.slot_int_rmul (typeIs_int s 1 t) F.entry_int_rmul (F.args_int_rmul_2 _ _) (int_rmul_tuple 1 t l its.toArray n dd sl)
        ⟨ho, rfl, ⟨_, ho, rfl⟩, call_meets F.slot_tuple_mul ⟨_, ho, rfl⟩ F.entry_tuple_mul (F.args_tuple_mul_2 _ _) (tmul1 l its.toArray n dd sl t) ⟨ho, ?_⟩⟩)
    exact ⟨.ref l, H, I, rfl, q1 rfl⟩
  · have e0 : k = 0 := by omega
    subst e0
    refine wpAny_binaryOp_repeat_ref (T := "tuple") (U := "int") (by decide) ⟨_, ho, rfl⟩ (fun s' => typeIs_int s' 0 t) noFill_tuple_mul F.fills_int_mul F.slot_int_rmul repeat_tuple F.slot_int_index.lookup
      (call_meets F.slot_int_rmul (typeIs_int s 0 t) F.entry_int_rmul (F.args_int_rmul_2 _ _) (int_rmul_tuple 0 t l its.toArray n dd sl)
        ⟨ho, rfl, ⟨_, ho, rfl⟩, call_meets F.slot_tuple_mul ⟨_, ho, rfl⟩ F.entry_tuple_mul (F.args_tuple_mul_2 _ _) (tmul0 l its.toArray n dd sl 0 t (by decide) (by decide) hi) ⟨ho, ?_⟩⟩)
    refine ⟨.ref s.heap.objs.size, _, I.laid (t' := s.toks) (o := .tup []) (fun b ob q => Heap.get?_push_of_some _ q) (Nat.le_refl _) ?_, rfl, q2 (by decide) _ (I.hok.fresh (Nat.le_refl _))⟩
    exact ⟨Nat.zero_le _, [], .nil, IsTup.new _ _⟩
end
section
variable {B0 H0 : Hp} {α β γ δ : Type} {X : Cx} {O : Ob B0 H0} {G : En} {e a b c : Expr} {es : List Expr} {R : Rp α} {S : Rp β} {U : Rp γ} {x x' : α} {y : β} {z : γ} {pos p0 p1 p2 : Pos} {i j : Int}
theorem E.repT {xs : List α} (ha : E X O G a (tupR R) xs) (hb : E X O G b intR i) (h0 : 0 ≤ i ∧ i ≤ 1000) (hl : xs ≠ [] ∧ xs.length ≤ 1000) : E X O G (.BinOp a .Mult b pos) (tupR R) (List.replicate i.toNat xs).flatten :=
  E.op op_mulT ha hb fun v w B H Q s ⟨p, us, e1, h1, h2⟩ e2 q => by
    have hl' := prd_len h2
    refine ⟨p, i, us, e1, e2, s _ _ h1, fun z => hl.1 (List.eq_nil_of_length_eq_zero (by rw [← hl', z]; rfl)), h0.1, h0.2, by rw [hl']; exact hl.2, fun z => ?_, fun z p hp => ?_⟩
    · subst z
      exact q _ B H (.refl s) ⟨p, us, rfl, h1, by simpa using h2⟩
    · exact q _ _ _ (Go.new s hp) ⟨p, _, rfl, upd_same, prd_mono (Go.new s hp).b (prd_flat _ h2)⟩
theorem E.tupT {xs : List α} (ha : E X O G e (tupR R) xs) (hm : X.mg "tuple" = none) (hg : Gl X "tuple" := by rfl) (ns : NS e := by exact fun _ _ => rfl) : E X O G (.Call (.Name "tuple" p0) [e] [] pos) (tupR R) xs :=
  E.bty call_tupleT (EA.one ha ns) (fun vs B H Q s ⟨u, h1, p, us, h2, h3, h4⟩ q => ⟨p, us, by rw [h1, h2], SqT.of (s _ _ h3), q _ B H (.refl s) ⟨p, us, rfl, h3, h4⟩⟩) hm (by decide +kernel) hg ns

theorem at_i {xs : List α} {z : Int} {n : Nat} (e : z = (n : Int)) (h : xs[n]? = some x) : atI xs z = some x := by
  rw [e]
  exact atI_nat h
theorem at_d {xs : List α} {z : Int} {n : Nat} (e : z = (n : Int)) (h : n < xs.length) (d : α) : atI xs z = some (xs.getD n d) :=
  at_i e (by rw [List.getD_eq_getElem?_getD, List.getElem?_eq_getElem h]; rfl)
theorem at_t {xs : List α} {z : Int} (h0 : 0 ≤ z) (h : z.toNat < xs.length) (d : α) : atI xs z = some (xs.getD z.toNat d) := at_d (by omega) h d
theorem ix_i {n j : Nat} {z : Int} (e : z = (j : Int)) (h : j < n) : ixN n z = some j := by
  subst e
  unfold ixN
  rw [if_pos (by omega), if_pos (by omega)]
  rfl
/-- an item by its place, d where there is none -/
theorem E.gT {xs : List α} (d : α) (ha : E X O G a (tupR R) xs) (hb : E X O G b intR i) (hx : 0 ≤ i ∧ i.toNat < xs.length) (hs : PlainIx b := by exact fun _ _ => rfl) : E X O G (.Subscript a b pos) R (xs.getD i.toNat d) := E.ixT ha hb (at_t hx.1 hx.2 d) hs
theorem E.gL {xs : List α} (d : α) (ha : LR X O G a R xs) (hb : E X O G b intR i) (hx : 0 ≤ i ∧ i.toNat < xs.length) (hs : PlainIx b := by exact fun _ _ => rfl) : E X O G (.Subscript a b pos) R (xs.getD i.toNat d) := E.ixL ha hb (at_t hx.1 hx.2 d) hs
theorem E.gS {ns : List Int} (ha : E X O G a (scrR X.K) ns) (hb : E X O G b intR i) (hx : 0 ≤ i ∧ i.toNat < ns.length) (hs : PlainIx b := by exact fun _ _ => rfl) : E X O G (.Subscript a b pos) intR (ns.getD i.toNat 0) := E.ixS ha hb (at_t hx.1 hx.2 0) hs
theorem at_n {xs : List α} {k : Nat} (h0 : 0 < k) (h : k ≤ xs.length) (d : α) : atI xs (-(k : Int)) = some (xs.getD (xs.length - k) d) := by
  unfold atI ixN
  rw [if_neg (by omega), if_pos (by omega)]
  show xs[(-(k : Int) + xs.length).toNat]? = _
  rw [show (-(k : Int) + xs.length).toNat = xs.length - k by omega, List.getD_eq_getElem?_getD, List.getElem?_eq_getElem (by omega)]
  rfl
theorem E.nT {xs : List α} (d : α) (k : Nat) {j1 : Nat} (ha : E X O G a (tupR R) xs) (hx : 0 < k ∧ k ≤ xs.length) : E X O G (.Subscript a (.UnaryOp .USub (.Constant (.int (k : Int)) j1 p1) p2) pos) R (xs.getD (xs.length - k) d) := E.ixT ha (E.neg E.int) (at_n hx.1 hx.2 d) (fun _ _ => rfl)
theorem E.nL {xs : List α} (d : α) (k : Nat) {j1 : Nat} (ha : LR X O G a R xs) (hx : 0 < k ∧ k ≤ xs.length) : E X O G (.Subscript a (.UnaryOp .USub (.Constant (.int (k : Int)) j1 p1) p2) pos) R (xs.getD (xs.length - k) d) := E.ixL ha (E.neg E.int) (at_n hx.1 hx.2 d) (fun _ _ => rfl)
/-! ### fractions as they are written -/
theorem E.frI {k j1 : Nat} (ha : E X O G a intR i) (na : NS a := by exact fun _ _ => rfl) : E X O G (.Tuple [a, .Constant (.int 1) j1 p1] k pos) frR (i : Rat) :=
  E.fr ha E.int (by simp) (by simp) na
theorem E.frN {k : Nat} {q : Rat} {j1 j2 : Nat} {p3 p4 p5 : Pos} (ha : E X O G a frR q) (hb : E X O G b frR q) : E X O G (.Tuple [.UnaryOp .USub (.Subscript a (.Constant (.int 0) j1 p1) p2) p3, .Subscript b (.Constant (.int 1) j2 p4) p5] k pos) frR (-q) :=
  E.fr (E.neg (E.ix0 ha)) (E.ix1 hb) (by simp) (by simp)

/-! ### data at any depth, compared -/
structure Dd (R : Rp α) (n : Nat) (d : α → PyData) : Prop where
  dp : ∀ (K : PySem.W.Frag) (H : Hp) (v : V) (x : α), R.r H v x → Dp K H v (d x)
  lay : ∀ x, (d x).canLay0 = true
  dep : ∀ x, (d x).depth ≤ n
  inj : ∀ x y, PyData.eqv (d x) (d y) = true ↔ x = y
theorem ddInt : Dd intR 0 PyData.int := ⟨fun K H v x h => by cases h; exact .int x, fun x => by simp [PyData.canLay0], fun x => by simp [PyData.depth], fun x y => by simp [PyData.eqv]⟩
theorem ddBl : Dd blR 0 PyData.bool := ⟨fun K H v x h => by cases h; exact .bl x, fun x => by simp [PyData.canLay0], fun x => by simp [PyData.depth], fun x y => by simp [PyData.eqv]⟩
theorem dd_all {n : Nat} {d : α → PyData} (D : Dd R n d) (K : PySem.W.Frag) {H : Hp} : ∀ {vs : List V} {xs : List α}, Paired (R.r H) vs xs → DpAll K H vs (xs.map d)
  | _, _, .nil => .nil
  | _, _, .cons r t => .cons (D.dp K H _ _ r) (dd_all D K t)
theorem dd_lay {n : Nat} {d : α → PyData} (D : Dd R n d) : ∀ xs : List α, PyData.canLayAll0 (xs.map d) = true
  | [] => by simp [PyData.canLayAll0]
  | x :: xs => by simp [PyData.canLayAll0, D.lay x, dd_lay D xs]
theorem dd_dep {n : Nat} {d : α → PyData} (D : Dd R n d) : ∀ xs : List α, PyData.depthAll (xs.map d) ≤ n
  | [] => by simp [PyData.depthAll]
  | x :: xs => by
    have h1 := D.dep x
    have h2 := dd_dep D xs
    simp only [List.map_cons, PyData.depthAll]
    omega
theorem dd_inj {n : Nat} {d : α → PyData} (D : Dd R n d) : ∀ xs ys : List α, PyData.eqvAll (xs.map d) (ys.map d) = true ↔ xs = ys
  | [], [] => by simp [PyData.eqvAll]
  | [], _ :: _ => by simp [PyData.eqvAll]
  | _ :: _, [] => by simp [PyData.eqvAll]
  | x :: xs, y :: ys => by simp [PyData.eqvAll, D.inj x y, dd_inj D xs ys]
theorem ddTup {n : Nat} {d : α → PyData} (D : Dd R n d) : Dd (tupR R) (n + 1) (fun xs => .tuple (xs.map d)) :=
  ⟨fun K H v x ⟨p, vs, h1, h2, h3⟩ => by subst h1; exact .tup (SqT.of h2) (dd_all D K h3), fun x => by simp [PyData.canLay0, dd_lay D x], fun x => by have := dd_dep D x; simp only [PyData.depth]; omega, fun x y => by simp only [PyData.eqv]; exact dd_inj D x y⟩
theorem ddLst {n : Nat} {d : α → PyData} (D : Dd R n d) : Dd (lstR R) (n + 1) (fun xs => .list (xs.map d)) :=
  ⟨fun K H v x ⟨p, vs, h1, h2, h3⟩ => by subst h1; exact .lst (SqL.of h2) (dd_all D K h3), fun x => by simp [PyData.canLay0, dd_lay D x], fun x => by have := dd_dep D x; simp only [PyData.depth]; omega, fun x y => by simp only [PyData.eqv]; exact dd_inj D x y⟩
theorem ddPair {n m : Nat} {d : α → PyData} {d' : β → PyData} (D : Dd R n d) (D' : Dd S m d') : Dd (pairR R S) (max n m + 1) (fun x => .tuple [d x.1, d' x.2]) :=
  ⟨fun K H v x ⟨p, a, b, h1, h2, h3, h4⟩ => by subst h1; exact .tup (SqT.of h2) (.cons (D.dp K H _ _ h3) (.cons (D'.dp K H _ _ h4) .nil)), fun x => by simp [PyData.canLay0, PyData.canLayAll0, D.lay, D'.lay],
   fun x => by have h1 := D.dep x.1; have h2 := D'.dep x.2; simp only [PyData.depth, PyData.depthAll]; omega, fun x y => by simp [PyData.eqv, PyData.eqvAll, D.inj, D'.inj, Prod.ext_iff]⟩
theorem ddFr : Dd frR 1 (fun q => .tuple [.int q.num, .int (q.den : Int)]) :=
  ⟨fun K H v x h => (ddPair ddInt ddInt).dp K H v _ h, fun x => (ddPair ddInt ddInt).lay (x.num, (x.den : Int)), fun x => (ddPair ddInt ddInt).dep (x.num, (x.den : Int)), fun x y => by
    rw [(ddPair ddInt ddInt).inj (x.num, (x.den : Int)) (y.num, (y.den : Int))]
    constructor
    · intro h
      have h1 : x.num = y.num := congrArg Prod.fst h
      have h2 : (x.den : Int) = (y.den : Int) := congrArg Prod.snd h
      exact Rat.ext h1 (by omega)
    · intro h; rw [h]⟩
/-- None, or a tuple -/
theorem ddOpt {n : Nat} {d : α → PyData} (D : Dd R n d) : Dd (optR (tupR R)) (n + 1) (fun x => match x with | none => .none | some y => .tuple (y.map d)) :=
  ⟨fun K H v x h => by
    cases x with
    | none => have e : v = .non := h; subst e; exact .non
    | some y => exact (ddTup D).dp K H v y h, fun x => by cases x with | none => simp [PyData.canLay0] | some y => exact (ddTup D).lay y, fun x => by cases x with | none => simp [PyData.depth] | some y => exact (ddTup D).dep y,
   fun x y => by
    cases x with
    | none => cases y with | none => simp [PyData.eqv] | some z => simp [PyData.eqv]
    | some w => cases y with | none => simp [PyData.eqv] | some z => simpa using (ddTup D).inj w z⟩
theorem Dd.shaped {n : Nat} {d : α → PyData} (D : Dd R n d) (hn : n ≤ 64) (x : α) : SeqAt.shaped (d x) = true := by
  unfold SeqAt.shaped
  rw [D.lay, decide_eq_true (Nat.le_trans (D.dep x) hn)]
  rfl
theorem Dd.eqv [DecidableEq α] {n : Nat} {d : α → PyData} (D : Dd R n d) (x y : α) : PyData.eqv (d x) (d y) = decide (x = y) := by
  by_cases h : x = y
  · rw [decide_eq_true h, (D.inj x y).mpr h]
  · rw [decide_eq_false h]
    cases q : PyData.eqv (d x) (d y) with
    | false => rfl
    | true => exact absurd ((D.inj x y).mp q) h
theorem hu64 {k : Nat} {A : Around} (hr : Room k A) : A.units + 64 < cLine := by have := hr.un; omega
theorem E.eqD [DecidableEq α] {n k : Nat} {d : α → PyData} (D : Dd R n d) (hr : Room k X.A) (ha : E X O G a R x) (hb : E X O G b R x') (hn : n ≤ 64 := by decide) : E X O G (.Compare a [.Eq] [b] pos) blR (decide (x = x')) :=
  E.cmp (op_eqD (hu64 hr)) (nomark _) ha hb fun v w B H Q s r1 r2 q => ⟨d x, d x', D.dp _ _ _ _ (R.mono s r1), D.dp _ _ _ _ (R.mono s r2), D.shaped hn x, D.shaped hn x', by rw [D.eqv]; exact q _ B H (.refl s) rfl⟩
theorem T.eqD [DecidableEq α] {n k : Nat} {d : α → PyData} (D : Dd R n d) (hr : Room k X.A) (ha : E X O G a R x) (hb : E X O G b R x') (hn : n ≤ 64 := by decide) : T X O G (.Compare a [.Eq] [b] pos) (decide (x = x')) :=
  T.cmp (op_eqD (hu64 hr)) (nomark _) ha hb fun v w B H Q s r1 r2 q => ⟨d x, d x', D.dp _ _ _ _ (R.mono s r1), D.dp _ _ _ _ (R.mono s r2), D.shaped hn x, D.shaped hn x', by rw [D.eqv]; exact q B H (.refl s)⟩
theorem E.neD [DecidableEq α] {n k : Nat} {d : α → PyData} (D : Dd R n d) (hr : Room k X.A) (ha : E X O G a R x) (hb : E X O G b R x') (hn : n ≤ 64 := by decide) : E X O G (.Compare a [.NotEq] [b] pos) blR (!decide (x = x')) :=
  E.cmp (op_neD (hu64 hr)) (nomark _) ha hb fun v w B H Q s r1 r2 q => ⟨d x, d x', D.dp _ _ _ _ (R.mono s r1), D.dp _ _ _ _ (R.mono s r2), D.shaped hn x, D.shaped hn x', by rw [D.eqv]; exact q _ B H (.refl s) rfl⟩
theorem T.neD [DecidableEq α] {n k : Nat} {d : α → PyData} (D : Dd R n d) (hr : Room k X.A) (ha : E X O G a R x) (hb : E X O G b R x') (hn : n ≤ 64 := by decide) : T X O G (.Compare a [.NotEq] [b] pos) (!decide (x = x')) :=
  T.cmp (op_neD (hu64 hr)) (nomark _) ha hb fun v w B H Q s r1 r2 q => ⟨d x, d x', D.dp _ _ _ _ (R.mono s r1), D.dp _ _ _ _ (R.mono s r2), D.shaped hn x, D.shaped hn x', by rw [D.eqv]; exact q B H (.refl s)⟩

/-! ### isinstance -/
structure Ty (R : Rp α) (t : String) : Prop where
  h : ∀ (K : PySem.W.Frag) (H : Hp) (v : V) (x : α), R.r H v x → TyX K H v (.type t)
theorem tyInt : Ty intR "int" := ⟨fun K H v x h => by cases h; exact .base (.int x)⟩
theorem tyBl : Ty blR "bool" := ⟨fun K H v x h => by cases h; exact .base (.bl x)⟩
theorem tyTup : Ty (tupR R) "tuple" := ⟨fun K H v x ⟨p, vs, h1, h2, _⟩ => by subst h1; exact .base (.tup h2)⟩
theorem tyLst : Ty (lstR R) "list" := ⟨fun K H v x ⟨p, vs, h1, h2, _⟩ => by subst h1; exact .base (.lst h2)⟩
theorem tyPair : Ty (pairR R S) "tuple" := ⟨fun K H v x ⟨p, _, _, h1, h2, _⟩ => by subst h1; exact .base (.tup h2)⟩
theorem tyTrio : Ty (trioR R S U) "tuple" := ⟨fun K H v x ⟨p, _, _, _, h1, h2, _⟩ => by subst h1; exact .base (.tup h2)⟩
theorem tyFr : Ty frR "tuple" := ⟨fun K H v x h => tyPair.h K H v _ h⟩
theorem E.isi {t n : String} {c : Str} {k : Bool} (ty : Ty R t) (ha : E X O G a R x) (hk : kitB t n = some k) (hm : X.mg "isinstance" = none) (hc : X.mg c = none) (hv : bootBuiltins c = some (.type n)) (hg : Gl X "isinstance" := by rfl) (hg2 : Gl X c := by rfl)
    (na : NS a := by exact fun _ _ => rfl) (hn : c ≠ "__name__" := by decide) (hd : (c == ("__debug__" : Str)) = false := by decide) : E X O G (.Call (.Name "isinstance" p0) [a, .Name c p1] [] pos) blR k :=
  E.of (pe_callB call_isi hg hm (by decide +kernel) (pa_cons semPE (pa_cons (pe_bltn (v := .ty n) hg2 hc hv rfl hn hd) pa_nil) (na _ _)) (by decide) (by decide) (na _ _) rfl) fun σ B H s Q q => ha σ B H s _ fun v B1 H1 g1 r1 =>
    ⟨v, .ty n, .type t, .type n, k, rfl, .ty n, ty.h _ _ _ _ (R.mono g1.s r1), kit_ty hk, q _ B1 H1 g1 rfl⟩
theorem E.pow (ha : E X O G a intR i) (hb : E X O G b intR j) (hc : CPow i j) : E X O G (.BinOp a .Pow b pos) intR (i ^ j.toNat) := E.iC op_pow rfl hc ha hb
theorem E.isN {op : Option α} {j : Nat} (ha : E X O G a (optR R) op) (hR : ∀ B v x, R.r B v x → v ≠ .non) : E X O G (.Compare a [.Is] [.Constant .none j p1] pos) blR op.isNone :=
  E.of (pe_cmp (pc_isN semPE)) fun σ B H s Q q => ha σ B H s _ fun v B1 H1 g1 r1 => by
    cases op with
    | none =>
      have e : v = .non := r1
      subst e
      exact q _ B1 H1 g1 rfl
    | some w =>
      have e := hR _ _ _ (show R.r B1 v w from r1)
      show Q (.bl (decide (v = .non))) H1
      rw [decide_eq_false e]
      exact q _ B1 H1 g1 rfl
theorem tup_nn {B : Hp} {v : V} {xs : List α} (h : (tupR R).r B v xs) : v ≠ .non := by
  obtain ⟨p, vs, h1, _, _⟩ := h
  rw [h1]
  exact fun z => nomatch z
theorem E.unopt {x : α} (h : E X O G e (optR R) (some x)) : E X O G e R x := h.conv fun _ _ r => r
theorem E.frT {q : Rat} (ha : E X O G e frR q) : E X O G e (tupR intR) [q.num, (q.den : Int)] := ha.conv fun B v ⟨p, a, b, h1, h2, h3, h4⟩ => ⟨p, [a, b], h1, h2, .cons h3 (.cons h4 .nil)⟩
theorem IT.eq {tg iter : Expr} {P : Hp → Hp → Prop} {xs ys : List α} (h : IT X O G tg iter P R xs) (q : xs = ys) : IT X O G tg iter P R ys := q ▸ h
/-- a name that a block within reads: the value is not swapped in -/
theorem sw_cell {elt : Expr} {gs : List Comprehension} {scope : Scope} {pos py : Pos} {y : Str} {l : Nat} {env : Env} (hy : env.scope.names.lookup y = some .cell) : swapsWith (.ListComp elt gs scope pos) (some (.Name y py)) l env = pure false := by
  have ky : env.kindOf y = some .cell := hy
  unfold swapsWith
  simp only [ky]
  congr 1
  rw [show ((some NameKind.cell == some NameKind.local) = false) from rfl, Bool.and_false, Bool.false_and, Bool.false_and]
/-! ### slices told plainly -/
theorem cut_to {xs : List α} {i : Int} (h : 0 ≤ i) : cutA xs none (some i) = xs.take i.toNat := by
  obtain ⟨k, rfl⟩ := Int.eq_ofNat_of_zero_le h
  unfold cutA
  rw [HT.sIx_none, HT.sIx_nat, List.drop_zero, Nat.sub_zero]
  show xs.take (min k xs.length) = xs.take k
  by_cases hk : k ≤ xs.length
  · rw [Nat.min_eq_left hk]
  · rw [Nat.min_eq_right (by omega), List.take_of_length_le (Nat.le_refl _), List.take_of_length_le (by omega)]
theorem cut_from {xs : List α} {i : Int} (h : 0 ≤ i) : cutA xs (some i) none = xs.drop i.toNat := by
  obtain ⟨k, rfl⟩ := Int.eq_ofNat_of_zero_le h
  unfold cutA
  rw [HT.sIx_none, HT.sIx_nat]
  show (xs.drop (min k xs.length)).take (xs.length - min k xs.length) = xs.drop k
  rw [List.take_of_length_le (by rw [List.length_drop]; omega)]
  by_cases hk : k ≤ xs.length
  · rw [Nat.min_eq_left hk]
  · rw [Nat.min_eq_right (by omega), List.drop_of_length_le (Nat.le_refl _), List.drop_of_length_le (by omega)]
theorem rep_one {n : Nat} {x : α} : (List.replicate n [x]).flatten = List.replicate n x := by
  induction n with
  | zero => rfl
  | succ n ih => rw [List.replicate_succ, List.replicate_succ, List.flatten_cons, ih]; rfl
end
end Tr

set_option maxHeartbeats 4000000
namespace Tr
open PySem L2 Mi
section
variable {B0 H0 : Hp} {α β γ δ : Type} {X : Cx} {O : Ob B0 H0} {G : En} {e a b c : Expr} {es : List Expr} {R : Rp α} {S : Rp β} {U : Rp γ} {x : α} {y : β} {z : γ} {pos p0 p1 p2 : Pos} {i j : Int}
/-! ### the open list, seen as closed while an expression is reckoned -/
/-- what is told does not lean on a list -/
structure Nl (R : Rp α) : Prop where
  h : ∀ {B : Hp} {p : Addr} {vs : List V} {v : V} {x : α}, B p = some (.lst vs) → R.r B v x → R.r (less B p) v x
theorem less_ne {B : Hp} {p q : Addr} (h : q ≠ p) : less B p q = B q := by unfold less; rw [if_neg h]
theorem nlInt : Nl intR := ⟨fun _ h => h⟩
theorem nlBl : Nl blR := ⟨fun _ h => h⟩
theorem nl_all (N : Nl R) {B : Hp} {p : Addr} {us : List V} (hp : B p = some (.lst us)) : ∀ {vs : List V} {xs : List α}, Paired (R.r B) vs xs → Paired (R.r (less B p)) vs xs
  | _, _, .nil => .nil
  | _, _, .cons r t => .cons (N.h hp r) (nl_all N hp t)
theorem nlTup (N : Nl R) : Nl (tupR R) := ⟨fun {B p vs v x} hp ⟨q, us, h1, h2, h3⟩ => ⟨q, us, h1, by rw [less_ne (fun z => by rw [z, hp] at h2; cases h2)]; exact h2, nl_all N hp h3⟩⟩
theorem nlPair (N : Nl R) (M : Nl S) : Nl (pairR R S) := ⟨fun {B p vs v x} hp ⟨q, u, w, h1, h2, h3, h4⟩ => ⟨q, u, w, h1, by rw [less_ne (fun z => by rw [z, hp] at h2; cases h2)]; exact h2, N.h hp h3, M.h hp h4⟩⟩
theorem nlFr : Nl frR := ⟨fun hp h => (nlPair nlInt nlInt).h hp h⟩
theorem E.peek {p : Addr} {xs : List α} (k : Nat) (hg : G[k]? = some (some ⟨adrR, p⟩)) (hS : Nl S) (he : ∀ B1 H1 : Hp, E X (bo B1 H1) (G.set k (some ⟨lstR R, xs⟩)) e S y) : E X (mo B0 H0 p R xs) G e S y := fun σ B H s Q q => by
  obtain ⟨go, h0, hb, vs, hp, r⟩ := s.o
  have sm : Same B (upd B p (.lst vs)) := same_new hb
  have sB : Same (upd B p (.lst vs)) H := fun b x e => by
    by_cases hz : b = p
    · subst hz
      rw [upd_same] at e
      rw [← e]
      exact hp
    · rw [upd_ne hz] at e
      exact go.s b x e
  have s2 : Sat (bo (upd B p (.lst vs)) H) G σ (upd B p (.lst vs)) H := ⟨Go.refl sB, s.len, fun i c e => let ⟨v, h1, h2⟩ := s.c i c e; ⟨v, h1, c.R.mono sm h2⟩⟩
  obtain ⟨v, e1, e2⟩ := s.c k _ hg
  have e3 : v = .ref p := e2
  subst e3
  have s3 := s2.set (R := lstR R) (x := xs) k ⟨p, vs, rfl, upd_same, prd_mono sm r⟩
  have es : σ.set k (some (V.ref p)) = σ := by
    apply List.ext_getElem?
    intro j
    by_cases hj : k = j
    · subst hj
      rw [List.getElem?_set]
      have := (List.getElem?_eq_some_iff.mp e1).1
      rw [if_pos rfl, if_pos this, e1]
    · rw [List.getElem?_set_ne hj]
  rw [es] at s3
  refine he _ _ σ _ H s3 Q fun v B' H' g r' => ?_
  have hB' : B' p = some (.lst vs) := g.b _ _ upd_same
  refine q v (less B' p) H' ⟨fun b x e => ?_, g.h, fun b x e => ?_, fun b h1 h2 => ?_⟩ (hS.h hB' r')
  · have hz : b ≠ p := ne_of_none e hb
    rw [less_ne hz]
    exact g.b _ _ (sm _ _ e)
  · unfold less at e
    split at e
    · cases e
    · exact g.s _ _ e
  · by_cases hz : b = p
    · unfold less
      rw [if_pos hz]
    · rw [less_ne hz]
      exact g.f b (by rw [upd_ne hz]; exact h1) h2
/-! ### a few more -/
theorem E.chain {op op' : CmpOp} {f f' : Int → Int → Bool} {n : Int} (h : OpI op f) (h' : OpI op' f') (ha : E X O G a intR i) (hb : E X O G b intR j) (hc : E X O G c intR n)
    (hm : lastMarks [op, op'] [b, c] = false := by with_unfolding_all rfl) : E X O G (.Compare a [op, op'] [b, c] pos) blR (f i j && f' j n) := by
  obtain ⟨r, ho, hr⟩ := h.op (X := X) (i := i) (j := j)
  obtain ⟨r', ho', hr'⟩ := h'.op (X := X) (i := j) (j := n)
  refine E.of (pe_chain ho ho' semPE semPE semPE hm) fun σ B H s Q q => ha σ B H s _ fun v B1 H1 g1 r1 => hb σ B1 H1 (s.go g1) _ fun w B2 H2 g2 r2 => ?_
  refine hr v w B2 H2 _ g2.s (intR.mono g2.b r1) r2 ⟨f i j, rfl, ?_⟩
  cases hk : f i j with
  | true =>
    rw [hk, Bool.true_and] at q
    exact iteT (hc σ B2 H2 (s.go (g1.trans g2)) _ fun u B3 H3 g3 r3 => hr' w u B3 H3 _ g3.s (intR.mono g3.b r2) r3 (q _ B3 H3 ((g1.trans g2).trans g3) rfl))
  | false =>
    rw [hk, Bool.false_and] at q
    exact iteF (q _ B2 H2 (g1.trans g2) rfl)
theorem T.isNotB {k l : Bool} (ha : E X O G a blR k) (hb : E X O G b blR l) (hm : behindInMarks .IsNot b = false := by exact nomark _) : T X O G (.Compare a [.IsNot] [b] pos) (!decide (k = l)) :=
  T.cmp op_isnot_bl hm ha hb fun v w B H Q s r1 r2 q => ⟨k, l, r1, r2, q B H (.refl s)⟩
theorem E.trT {x1 x2 x3 : α} (ha : E X O G e (trioR R R R) (x1, x2, x3)) : E X O G e (tupR R) [x1, x2, x3] := ha.conv fun B v ⟨p, u1, u2, u3, h1, h2, h3, h4, h5⟩ => ⟨p, [u1, u2, u3], h1, h2, .cons h3 (.cons h4 (.cons h5 .nil))⟩
theorem prd_opt {B : Hp} : ∀ {vs : List V} {xs : List α}, Paired ((optR R).r B) vs (xs.map some) → Paired (R.r B) vs xs
  | _, [], .nil => .nil
  | _, _ :: _, .cons r t => .cons r (prd_opt t)
theorem E.unopts {xs : List α} (h : E X O G e (tupR (optR R)) (xs.map some)) : E X O G e (tupR R) xs := h.conv fun B v ⟨p, vs, h1, h2, h3⟩ => ⟨p, vs, h1, h2, prd_opt h3⟩
theorem E.ixR0 {q : α × β × γ} (ha : E X O G a (trioR R S U) q) {j : Nat} : E X O G (.Subscript a (.Constant (.int 0) j p1) pos) R q.1 :=
  E.of (pe_ix ix_tup semPE pe_int (fun _ _ => rfl)) fun σ B H s Q k => ha σ B H s _ fun v B1 H1 g1 ⟨p, u, w, t, e1, h1, h2, h3, h4⟩ => ⟨p, [u, w, t], 0, u, e1, rfl, SqT.of (g1.s _ _ h1), rfl, k u B1 H1 g1 h2⟩
end
end Tr

set_option maxHeartbeats 4000000
namespace Tr
open PySem L2 Mi
/-! ### an object whose fields change -/
abbrev Fc := List (Str × Cell)
def Fld (B : Hp) (a : Str × V) (b : Str × Cell) : Prop := a.1 = b.1 ∧ b.2.R.r B a.2 b.2.x
def putc (f : Str) (c : Cell) : Fc → Fc
  | [] => [(f, c)]
  | (g, x) :: r => if g = f then (g, c) :: r else (g, x) :: putc f c r
/-- the object at p has the fields F -/
inductive Flds (B : Hp) : List (Str × V) → Fc → Prop
  | nil : Flds B [] []
  | cons {a : Str × V} {b : Str × Cell} {r : List (Str × V)} {t : Fc} : Fld B a b → Flds B r t → Flds B (a :: r) (b :: t)
def objAt (C : Addr) (B H : Hp) (p : Addr) (F : Fc) : Prop := ∃ dx fs, H p = some (.ins C dx fs) ∧ Flds B fs F
theorem fld_mono {B B' : Hp} (s : Same B B') : ∀ {fs : List (Str × V)} {F : Fc}, Flds B fs F → Flds B' fs F
  | _, _, .nil => .nil
  | _, _, .cons r t => .cons ⟨r.1, Rp.mono _ s r.2⟩ (fld_mono s t)
theorem fld_get {B : Hp} {n : Str} : ∀ {fs : List (Str × V)} {F : Fc} {c : Cell}, Flds B fs F → F.lookup n = some c → ∃ v, fs.lookup n = some v ∧ c.R.r B v c.x
  | _, _, _, .nil, e => by cases e
  | (a, u) :: _, (b, d) :: _, c, .cons ⟨r1, r2⟩ t, e => by
    have r1 : a = b := r1
    subst r1
    rw [List.lookup_cons] at e ⊢
    cases h : n == a with
    | true =>
      rw [h] at e
      have e : d = c := Option.some.inj e
      rw [← e]
      exact ⟨u, rfl, r2⟩
    | false =>
      rw [h] at e
      exact fld_get t e
theorem fld_none {B : Hp} {n : Str} : ∀ {fs : List (Str × V)} {F : Fc}, Flds B fs F → F.lookup n = none → fs.lookup n = none
  | _, _, .nil, _ => rfl
  | (a, u) :: _, (b, d) :: _, .cons ⟨r1, r2⟩ t, e => by
    have r1 : a = b := r1
    subst r1
    rw [List.lookup_cons] at e ⊢
    cases h : n == a with
    | true => rw [h] at e; cases e
    | false =>
      rw [h] at e
      exact fld_none t e
theorem fld_put {B : Hp} {n : Str} {v : V} {c : Cell} (r : c.R.r B v c.x) : ∀ {fs : List (Str × V)} {F : Fc}, Flds B fs F → Flds B (putF n v fs) (putc n c F)
  | _, _, .nil => .cons ⟨rfl, r⟩ .nil
  | (a, u) :: _, (b, d) :: _, .cons ⟨r1, r2⟩ t => by
    have r1 : a = b := r1
    subst r1
    unfold putF putc
    by_cases h : a = n
    · rw [if_pos h, if_pos h]
      exact .cons ⟨rfl, r⟩ t
    · rw [if_neg h, if_neg h]
      exact .cons ⟨rfl, r2⟩ (fld_put r t)
/-- the one object that the def may change, beside what is kept -/
def obj (C : Addr) (B0 H0 : Hp) (p : Addr) (F : Fc) : Ob B0 H0 :=
  ⟨fun B H => Go B0 H0 B (less H p) ∧ H0 p = none ∧ B p = none ∧ objAt C B H p F,
   fun ⟨a, h0, hb, dx, fs, h1, h2⟩ g => ⟨a.trans (go_less g hb (by rw [h1]; exact fun q => nomatch q)), h0, g.f p hb (by rw [h1]; exact fun q => nomatch q), dx, fs, g.h _ _ h1, fld_mono g.b h2⟩,
   fun ⟨a, h0, hb, dx, fs, h1, h2⟩ => ⟨a.b, fun x o e => same_less _ _ (a.h x o e), fun x o e => same_less _ _ (a.s x o e), a.f⟩⟩
/-- an object that is only read -/
def obr (C : Addr) (B0 H0 : Hp) (p : Addr) (F : Fc) : Ob B0 H0 :=
  ⟨fun B H => Go B0 H0 B H ∧ objAt C B H p F, fun ⟨a, dx, fs, h1, h2⟩ g => ⟨a.trans g, dx, fs, g.h _ _ h1, fld_mono g.b h2⟩, fun a => a.1⟩
/-- where the object stands -/
structure OA {B0 H0 : Hp} (O : Ob B0 H0) (C p : Addr) (F : Fc) : Prop where
  h : ∀ {B H : Hp}, O.p B H → objAt C B H p F
theorem oaB {C : Addr} {B0 H0 : Hp} {p : Addr} {F : Fc} : OA (obj C B0 H0 p F) C p F := ⟨fun o => o.2.2.2⟩
theorem oaR {C : Addr} {B0 H0 : Hp} {p : Addr} {F : Fc} : OA (obr C B0 H0 p F) C p F := ⟨fun o => o.2⟩
/-- the promise of a method that changes nothing: d tells the object, a the arguments -/
def MPur {δ α β : Type} (C : Addr) (fl : δ → Fc) (Ra : Rps α) (S : Rp β) (pre : δ → α → Prop) (f : δ → α → β) : Sp := fun vs H Q _ => ∃ (B : Hp) (p : Addr) (us : List V) (d : δ) (a : α), vs = .ref p :: us ∧ Same B H ∧ objAt C B H p (fl d) ∧ Ra.r B us a ∧ pre d a ∧
  ∀ v B' H', Go B H B' H' → S.r B' v (f d a) → Q v H'
/-- the promise of a method that changes the object and tells None -/
def MRel {δ α : Type} (C : Addr) (fl : δ → Fc) (Ra : Rps α) (pre : δ → α → Prop) (post : δ → α → δ → Prop) : Sp := fun vs H Q _ => ∃ (B : Hp) (p : Addr) (us : List V) (d : δ) (a : α), vs = .ref p :: us ∧ Same B (less H p) ∧ B p = none ∧ objAt C B H p (fl d) ∧ Ra.r B us a ∧ pre d a ∧
  ∀ B' H' d', Go B (less H p) B' (less H' p) → B' p = none → objAt C B' H' p (fl d') → post d a d' → Q .non H'
/-- a method that is known -/
structure Dm (P : Program) (w : World) (K : PySem.W.Frag) (mg : Str → Option Value) (base : Heap) (C : Addr) (k : Nat) (m : Str) (ps : List Str) (sp : Sp) : Prop where
  h : ∃ (f : Addr) (fd : FuncData), FnOk P w K mg base CX0 k f fd ps sp ∧ Cls K C ∧ Meth K C m f ∧ Binds K fd ps []
theorem Dm.mono {P : Program} {w : World} {K : PySem.W.Frag} {mg : Str → Option Value} {base : Heap} {C : Addr} {j k : Nat} {m : Str} {ps : List Str} {sp : Sp} (D : Dm P w K mg base C j m ps sp) (h : j ≤ k) : Dm P w K mg base C k m ps sp := by
  obtain ⟨f, fd, F, r⟩ := D.h
  exact ⟨f, fd, F.mono h, r⟩
section
variable {B0 H0 : Hp} {α β γ δ ε : Type} {X : Cx} {O : Ob B0 H0} {G : En} {e a b c o : Expr} {es : List Expr} {R : Rp α} {S' : Rp β} {U : Rp γ} {x : α} {y : β} {z : γ} {pos p0 p1 p2 apos : Pos} {i j : Int} {C p : Addr} {F : Fc} {rest : List Stmt} {NX : NXT} {RT : RTT}
/-- a field -/
theorem E.fld {n : Str} {c : Cell} (oa : OA O C p F) (ho : E X O G o adrR p) (hc : Cls X.K C) (hn : NoAttr X.K C n) (hl : F.lookup n = some c) (hb : attributeBase o n X.env (eval o X.env) = eval o X.env := by rfl) : E X O G (.Attribute o n pos) c.R c.x :=
  E.of (pe_fld semPE hb) fun σ B H s Q q => ho σ B H s _ fun v B1 H1 g1 r1 => by
    obtain ⟨dx, fs, h1, h2⟩ := oa.h (s.go g1).o
    obtain ⟨u, e1, e2⟩ := fld_get h2 hl
    have r1 : v = V.ref p := r1
    exact ⟨p, C, dx, fs, u, r1, h1, hc, hn, e1, q u B1 H1 g1 e2⟩
/-- a call of a method that changes nothing -/
theorem E.meth {k : Nat} {m : Str} {ps : List Str} {fl : δ → Fc} {Ra : Rps α} {pre : δ → α → Prop} {f : δ → α → β} {d : δ} {pl : Sem Bool} (D : Dm X.prog X.w X.K X.mg X.base C k m ps (MPur C fl Ra S' pre f)) (hr : Room k X.A) (oa : OA O C p (fl d)) (ho : E X O G o adrR p) (ha : EA X O G (e :: es) Ra x) (hp : pre d x) (hm : (fl d).lookup m = none)
    (ns : NS e := by exact fun _ _ => rfl) (hpl : (backTo pos (starEach es X.env)).any (·.1) = false := by rfl)
    (ht : eval (.Call (.Attribute o m apos) (e :: es) [] pos) X.env = (do
      let ov ← eval o X.env
      standAt apos.atName
      let (f, first) ← holding [ov] (getMethod ov m pl)
      callWith pos f first (backTo pos (starEach (e :: es) X.env)) (backToKw pos (keywordEach [] X.env))) := by rfl) :
    E X O G (.Call (.Attribute o m apos) (e :: es) [] pos) S' (f d x) := by
  obtain ⟨fa, fd, F, hc, hM, hb⟩ := D.h
  refine E.of (pe_meth (E := E0) semPE hc hM F hr hb .nil pass0 semPA (ns _ _) hpl ht) fun σ B H s Q q => ho σ B H s _ fun v B1 H1 g1 r1 => ?_
  have r1 : v = V.ref p := r1
  obtain ⟨dx, fs, h1, h2⟩ := oa.h (s.go g1).o
  refine ⟨p, dx, fs, r1, h1, fld_none h2 hm, ?_⟩
  refine ha σ B1 H1 (s.go g1) _ fun us B2 H2 g2 r2 => ?_
  rw [List.append_nil]
  exact ⟨B2, p, us, d, x, by rw [r1], (s.go (g1.trans g2)).sm, oa.h (s.go (g1.trans g2)).o, r2, hp, fun v' B3 H3 g3 r3 => q v' B3 H3 ((g1.trans g2).trans g3) r3⟩
/-- a call of a method that changes the object, as a statement -/
theorem S.meth {k : Nat} {m : Str} {ps : List Str} {fl : δ → Fc} {Ra : Rps α} {pre : δ → α → Prop} {post : δ → α → δ → Prop} {d : δ} {pl : Sem Bool} (D : Dm X.prog X.w X.K X.mg X.base C k m ps (MRel C fl Ra pre post)) (hr : Room k X.A) (ho : E X (obj C B0 H0 p (fl d)) G o adrR p) (ha : EA X (obj C B0 H0 p (fl d)) G (e :: es) Ra x) (hp : pre d x) (hm : (fl d).lookup m = none)
    (h : ∀ d', post d x d' → S X (obj C B0 H0 p (fl d')) G rest NX RT)
    (ns : NS e := by exact fun _ _ => rfl) (hpl : (backTo pos (starEach es X.env)).any (·.1) = false := by rfl)
    (ht : eval (.Call (.Attribute o m apos) (e :: es) [] pos) X.env = (do
      let ov ← eval o X.env
      standAt apos.atName
      let (f, first) ← holding [ov] (getMethod ov m pl)
      callWith pos f first (backTo pos (starEach (e :: es) X.env)) (backToKw pos (keywordEach [] X.env))) := by rfl)
    (hdr : ∀ B H B' H' d', (obj C B0 H0 p (fl d)).p B H → Go B (less H p) B' (less H' p) → B' p = none → objAt C B' H' p (fl d') → (obj C B0 H0 p (fl d')).p B' H' := by exact fun B H B' H' d' o g hb' h3 => ⟨o.1.trans g, o.2.1, hb', h3⟩) :
    S X (obj C B0 H0 p (fl d)) G (.Expr (.Call (.Attribute o m apos) (e :: es) [] pos) p2 :: rest) NX RT := by
  obtain ⟨fa, fd, F, hc, hM, hb⟩ := D.h
  refine S.seq (ps_expr (pe_meth (E := E0) semPE hc hM F hr hb .nil pass0 semPA (ns _ _) hpl ht)) fun σ B H s Dn nx r => ?_
  refine ho σ B H s _ fun v B1 H1 g1 r1 => ?_
  have r1 : v = V.ref p := r1
  obtain ⟨dx, fs, h1, h2⟩ := oaB.h (s.go g1).o
  refine ⟨p, dx, fs, r1, h1, fld_none h2 hm, ?_⟩
  refine ha σ B1 H1 (s.go g1) _ fun us B2 H2 g2 r2 => ?_
  rw [List.append_nil]
  have o2 := (s.go (g1.trans g2)).o
  refine ⟨B2, p, us, d, x, by rw [r1], o2.1.s, o2.2.2.1, o2.2.2.2, r2, hp, fun B3 H3 d' g3 hb3 h3 hpost => ?_⟩
  have s2 := s.go (g1.trans g2)
  have s3 : Sat (obj C B0 H0 p (fl d')) G σ B3 H3 := ⟨hdr _ _ _ _ d' o2 g3 hb3 h3, s2.len, fun i c e => let ⟨v, h1, h2⟩ := s2.c i c e; ⟨v, h1, c.R.mono g3.b h2⟩⟩
  exact Sat.run (h d' hpost) ((g1.trans g2).b.trans g3.b) nx r s3
theorem flds_len {B : Hp} {fs : List (Str × V)} {F : Fc} (h : Flds B fs F) : fs.length = F.length := by
  induction h with
  | nil => rfl
  | cons _ _ ih => rw [List.length_cons, List.length_cons, ih]
/-- self.n = e -/
theorem S.fset {n : Str} (he : E X (obj C B0 H0 p F) G e R x) (ho : E X (obj C B0 H0 p F) G o adrR p) (hc : Cls X.K C) (hn : NoAttr X.K C n) (hlen : F.length < 1000) (h : S X (obj C B0 H0 p (putc n ⟨R, x⟩ F)) G rest NX RT)
    (hs : swapsWith e (some (.Attribute o n p1)) pos.line X.env = pure false := by rfl) : S X (obj C B0 H0 p F) G (.Assign [.Attribute o n p1] e pos :: rest) NX RT :=
  S.seq (ps_fld semPE semPE hs) fun σ B H s Dn nx r => he σ B H s _ fun y B1 H1 g1 r1 => ho σ B1 H1 (s.go g1) _ fun u B2 H2 g2 r2 => by
    have s2 := s.go (g1.trans g2)
    obtain ⟨a1, h0, hb, dx, fs, h1, h2⟩ := s2.o
    have r2 : u = V.ref p := r2
    refine ⟨p, C, dx, fs, r2, h1, hc, hn, by rw [flds_len h2]; exact hlen, ?_⟩
    refine Sat.run h (g1.trans g2).b nx r (B' := B2) ⟨⟨by rw [less_upd]; exact a1, h0, hb, dx, _, upd_same, fld_put (c := ⟨R, x⟩) (R.mono g2.b r1) h2⟩, s2.len, s2.c⟩
/-- the promise of __init__ -/
def MIni {δ α : Type} (C : Addr) (fl : δ → Fc) (Ra : Rps α) (pre : α → Prop) (g : α → δ) : Sp := fun vs H Q _ => ∃ (B : Hp) (p : Addr) (us : List V) (a : α), vs = .ref p :: us ∧ Same B (less H p) ∧ B p = none ∧ objAt C B H p [] ∧ Ra.r B us a ∧ pre a ∧
  ∀ B' H', Go B (less H p) B' (less H' p) → B' p = none → objAt C B' H' p (fl (g a)) → Q .non H'
/-- name = Cls(e, ..) -/
theorem S.make {k : Nat} {cn n : Str} {ps : List Str} {fl : δ → Fc} {Ra : Rps α} {pre : α → Prop} {g : α → δ} {x : α} {f : Addr} {fd : FuncData} (j : Nat) (M : Mk X.K C f) (F : FnOk X.prog X.w X.K X.mg X.base CX0 k f fd ps (MIni C fl Ra pre g)) (hb : Binds X.K fd ps []) (hm : X.mg cn = some (.ref C)) (hr : Room (k + 1) X.A) (ha : EA X (bo B0 H0) G (e :: es) Ra x) (hp : pre x)
    (hN : X.N.Nodup) (h : ∀ p, S X (obj C B0 H0 p (fl (g x))) (G.set j (some ⟨adrR, p⟩)) rest NX RT) (hg : Gl X cn := by rfl) (hi : X.N[j]? = some n := by rfl) (hx : Loc X.env.scope n := by first | exact Or.inl rfl | exact Or.inr rfl)
    (hs : swapsWith (.Call (.Name cn p0) (e :: es) [] apos) (some (.Name n p1)) pos.line X.env = pure false := by rfl) (hf : X.fn n = true ∨ X.env.scope.names.lookup n = some .local := by first | exact .inl rfl | exact .inr rfl)
    (ns : NS e := by exact fun _ _ => rfl) (hdb : (cn == ("__debug__" : Str)) = false := by decide) (hpl : (backTo apos (starEach es X.env)).any (·.1) = false := by rfl) :
    S X (bo B0 H0) G (.Assign [.Name n p1] (.Call (.Name cn p0) (e :: es) [] apos) pos :: rest) NX RT :=
  S.seq (ps_set (i := j) hN hi hx (pe_make (E := E0) M F hr hg hm hb .nil pass0 semPA hdb (ns _ _) hpl) hs hf) fun σ B H s Dn nx r => ha σ B H s _ fun us B1 H1 g1 r1 => by
    intro q dx h1 h2 h3
    rw [List.append_nil]
    have s1 := s.go g1
    have sm : Same B1 H1 := s1.sm
    have hq : (upd H1 dx (.own q)) q = none := by rw [upd_ne (Ne.symm h3)]; exact h1
    have hl : less (upd (upd H1 dx (.own q)) q (.ins C dx [])) q = upd H1 dx (.own q) := by rw [less_upd, less_of_none hq]
    have gd : Go B1 H1 B1 (upd H1 dx (.own q)) := Go.ltr sm h2
    refine ⟨B1, q, us, x, rfl, by rw [hl]; exact gd.s, sm.free h1, ⟨dx, [], upd_same, .nil⟩, r1, hp, fun B2 H3 g3 hb2 h4 => ⟨rfl, ?_⟩⟩
    rw [hl] at g3
    have o1 : Go B0 H0 B1 H1 := s1.o
    have s2 : Sat (obj C B0 H0 q (fl (g x))) G σ B2 H3 := ⟨⟨(o1.trans gd).trans g3, o1.h.free h1, hb2, h4⟩, s1.len, fun i c e => let ⟨v, z1, z2⟩ := s1.c i c e; ⟨v, z1, c.R.mono g3.b z2⟩⟩
    exact Sat.run (h q) ((g1.b).trans g3.b) nx r (s2.set (R := adrR) (x := q) j rfl)
end
section
variable {α β γ δ ε : Type} {P : Program} {w : World} {K : PySem.W.Frag} {mg : Str → Option Value} {base : Heap}
/-- the end of a method that changes the object -/
def nxO (C : Addr) (B0 H0 : Hp) (p : Addr) (fl : δ → Fc) (post : δ → Prop) : NXT := fun _ B H => ∃ d', post d' ∧ (obj C B0 H0 p (fl d')).p B H
theorem mrel_ok {x qual : Str} {st : Stmt} {f C : Addr} {fd : FuncData} {N ps : List Str} {k n : Nat} {fl : δ → Fc} {Ra : Rps α} {pre : δ → α → Prop} {post : δ → α → δ → Prop} {cs : α → List Cell} (F : Fun K x qual st f fd) (sc : FnScope N ps (defScope st)) (ar : Ar Ra n cs) (hn : ps.length = n + 1)
    (h : ∀ (cdv : Value) (A : Around) (outer : List Env) (s : Shared) (H0 B0 : Hp) (E : XK) (p : Addr) (d : δ) (a : α) (H : Hp), Room k (A.deeper (PyProof.Rows.envOfC qual (defScope st) s.heap.objs.size f cdv)) → pre d a →
      S (CxB P w K mg base N qual st f cdv A outer s H E) (obj C B0 H0 p (fl d)) (gst N (⟨adrR, p⟩ :: cs a)) (defBody st) (nxO C B0 H0 p fl (post d a)) (fun _ _ _ => False)) : FnOk P w K mg base CX0 (k + 1) f fd ps (MRel C fl Ra pre post) := by
  refine F.ok sc (fun vs H Q E hs => ?_) (fun cdv A outer s H vs Q E hr hs => ?_)
  · obtain ⟨B, p, us, d, a, e, _, _, _, h1, _⟩ := hs
    rw [e, List.length_cons, (ar.h B us a h1).2, hn]
  · obtain ⟨B, p, us, d, a, e, sm, hb, ho, h1, h2, h3⟩ := hs
    refine ⟨_, semPSs, ?_⟩
    rw [e]
    refine h cdv A outer s (less H p) B E p d a H hr h2 _ B H (sat_start (O := obj C B (less H p) p (fl d)) (.cons rfl (ar.h B us a h1).1) ⟨Go.refl sm, ?_, hb, ho⟩) _ (fun σ' B' H' _ z => ?_) fun v B' H' _ z => z.elim
    · unfold less
      rw [if_pos rfl]
    · obtain ⟨d', hp, g1, _, hb', ho'⟩ := z
      exact h3 B' H' d' g1 hb' ho' hp
theorem mini_ok {x qual : Str} {st : Stmt} {f C : Addr} {fd : FuncData} {N ps : List Str} {k n : Nat} {fl : δ → Fc} {Ra : Rps α} {pre : α → Prop} {g : α → δ} {cs : α → List Cell} (F : Fun K x qual st f fd) (sc : FnScope N ps (defScope st)) (ar : Ar Ra n cs) (hn : ps.length = n + 1)
    (h : ∀ (cdv : Value) (A : Around) (outer : List Env) (s : Shared) (H0 B0 : Hp) (E : XK) (p : Addr) (a : α) (H : Hp), Room k (A.deeper (PyProof.Rows.envOfC qual (defScope st) s.heap.objs.size f cdv)) → pre a →
      S (CxB P w K mg base N qual st f cdv A outer s H E) (obj C B0 H0 p []) (gst N (⟨adrR, p⟩ :: cs a)) (defBody st) (nxO C B0 H0 p fl (fun d => d = g a)) (fun _ _ _ => False)) : FnOk P w K mg base CX0 (k + 1) f fd ps (MIni C fl Ra pre g) := by
  refine F.ok sc (fun vs H Q E hs => ?_) (fun cdv A outer s H vs Q E hr hs => ?_)
  · obtain ⟨B, p, us, a, e, _, _, _, h1, _⟩ := hs
    rw [e, List.length_cons, (ar.h B us a h1).2, hn]
  · obtain ⟨B, p, us, a, e, sm, hb, ho, h1, h2, h3⟩ := hs
    refine ⟨_, semPSs, ?_⟩
    rw [e]
    refine h cdv A outer s (less H p) B E p a H hr h2 _ B H (sat_start (O := obj C B (less H p) p []) (.cons rfl (ar.h B us a h1).1) ⟨Go.refl sm, ?_, hb, ho⟩) _ (fun σ' B' H' _ z => ?_) fun v B' H' _ z => z.elim
    · unfold less
      rw [if_pos rfl]
    · obtain ⟨d', hp, g1, _, hb', ho'⟩ := z
      subst hp
      exact h3 B' H' g1 hb' ho'
theorem mpur_ok {x qual : Str} {st : Stmt} {f C : Addr} {fd : FuncData} {N ps : List Str} {k n : Nat} {fl : δ → Fc} {Ra : Rps α} {R : Rp β} {pre : δ → α → Prop} {g : δ → α → β} {cs : α → List Cell} (F : Fun K x qual st f fd) (sc : FnScope N ps (defScope st)) (ar : Ar Ra n cs) (hn : ps.length = n + 1)
    (h : ∀ (cdv : Value) (A : Around) (outer : List Env) (s : Shared) (H0 B0 : Hp) (E : XK) (p : Addr) (d : δ) (a : α), Room k (A.deeper (PyProof.Rows.envOfC qual (defScope st) s.heap.objs.size f cdv)) → pre d a →
      S (CxB P w K mg base N qual st f cdv A outer s H0 E) (obr C B0 H0 p (fl d)) (gst N (⟨adrR, p⟩ :: cs a)) (defBody st) (fun _ _ _ => False) (rtP B0 H0 R (g d a))) : FnOk P w K mg base CX0 (k + 1) f fd ps (MPur C fl Ra R pre g) := by
  refine F.ok sc (fun vs H Q E hs => ?_) (fun cdv A outer s H vs Q E hr hs => ?_)
  · obtain ⟨B, p, us, d, a, e, _, _, h1, _⟩ := hs
    rw [e, List.length_cons, (ar.h B us a h1).2, hn]
  · obtain ⟨B, p, us, d, a, e, sm, ho, h1, h2, h3⟩ := hs
    refine ⟨_, semPSs, ?_⟩
    rw [e]
    exact h cdv A outer s H B E p d a hr h2 _ B H (sat_start (O := obr C B H p (fl d)) (.cons rfl (ar.h B us a h1).1) ⟨Go.refl sm, ho⟩) _ (fun _ _ _ _ z => z.elim) fun v B' H' _ ⟨g1, g2⟩ => h3 v B' H' g1 g2
theorem ar4 {R : Rp α} {S : Rp β} {T : Rp γ} {U : Rp δ} : Ar (a4 R S T U) 4 (fun a => [⟨R, a.1⟩, ⟨S, a.2.1⟩, ⟨T, a.2.2.1⟩, ⟨U, a.2.2.2⟩]) := ⟨fun B vs a ⟨u, v, w, x, h1, h2, h3, h4, h5⟩ => by subst h1; exact ⟨.cons h2 (.cons h3 (.cons h4 (.cons h5 .nil))), rfl⟩⟩
def a5 (R : Rp α) (S : Rp β) (T : Rp γ) (U : Rp δ) (W : Rp ε) : Rps (α × β × γ × δ × ε) := ⟨fun H vs a => ∃ u v x y z, vs = [u, v, x, y, z] ∧ R.r H u a.1 ∧ S.r H v a.2.1 ∧ T.r H x a.2.2.1 ∧ U.r H y a.2.2.2.1 ∧ W.r H z a.2.2.2.2, fun e ⟨u, v, x, y, z, h1, h2, h3, h4, h5, h6⟩ => ⟨u, v, x, y, z, h1, R.mono e h2, S.mono e h3, T.mono e h4, U.mono e h5, W.mono e h6⟩⟩
theorem ar5 {R : Rp α} {S : Rp β} {T : Rp γ} {U : Rp δ} {W : Rp ε} : Ar (a5 R S T U W) 5 (fun a => [⟨R, a.1⟩, ⟨S, a.2.1⟩, ⟨T, a.2.2.1⟩, ⟨U, a.2.2.2.1⟩, ⟨W, a.2.2.2.2⟩]) := ⟨fun B vs a ⟨u, v, w, x, y, h1, h2, h3, h4, h5, h6⟩ => by subst h1; exact ⟨.cons h2 (.cons h3 (.cons h4 (.cons h5 (.cons h6 .nil)))), rfl⟩⟩
end
section
variable {B0 H0 : Hp} {α β γ δ ε : Type} {X : Cx} {O : Ob B0 H0} {G : En} {e1 e2 e3 e4 e5 : Expr} {R : Rp α} {S' : Rp β} {U : Rp γ} {W : Rp δ} {V' : Rp ε} {x : α} {y : β} {z : γ} {u : δ} {t : ε}
theorem EA.four (h1 : E X O G e1 R x) (h2 : E X O G e2 S' y) (h3 : E X O G e3 U z) (h4 : E X O G e4 W u) (n1 : NS e1 := by exact fun _ _ => rfl) (n2 : NS e2 := by exact fun _ _ => rfl) (n3 : NS e3 := by exact fun _ _ => rfl) (n4 : NS e4 := by exact fun _ _ => rfl) : EA X O G [e1, e2, e3, e4] (a4 R S' U W) (x, y, z, u) := by
  refine EA.of (pa_cons semPE (pa_cons semPE (pa_cons semPE (pa_cons semPE pa_nil (n4 _ _)) (n3 _ _)) (n2 _ _)) (n1 _ _)) fun σ B H s Q q => ?_
  exact h1 σ B H s _ fun v1 B1 H1 g1 r1 => h2 σ B1 H1 (s.go g1) _ fun v2 B2 H2 g2 r2 => h3 σ B2 H2 (s.go (g1.trans g2)) _ fun v3 B3 H3 g3 r3 => h4 σ B3 H3 (s.go ((g1.trans g2).trans g3)) _ fun v4 B4 H4 g4 r4 =>
    q _ B4 H4 (((g1.trans g2).trans g3).trans g4) ⟨v1, v2, v3, v4, rfl, R.mono ((g2.trans g3).trans g4).b r1, S'.mono (g3.trans g4).b r2, U.mono g4.b r3, r4⟩
theorem EA.five (h1 : E X O G e1 R x) (h2 : E X O G e2 S' y) (h3 : E X O G e3 U z) (h4 : E X O G e4 W u) (h5 : E X O G e5 V' t) (n1 : NS e1 := by exact fun _ _ => rfl) (n2 : NS e2 := by exact fun _ _ => rfl) (n3 : NS e3 := by exact fun _ _ => rfl) (n4 : NS e4 := by exact fun _ _ => rfl) (n5 : NS e5 := by exact fun _ _ => rfl) : EA X O G [e1, e2, e3, e4, e5] (a5 R S' U W V') (x, y, z, u, t) := by
  refine EA.of (pa_cons semPE (pa_cons semPE (pa_cons semPE (pa_cons semPE (pa_cons semPE pa_nil (n5 _ _)) (n4 _ _)) (n3 _ _)) (n2 _ _)) (n1 _ _)) fun σ B H s Q q => ?_
  exact h1 σ B H s _ fun v1 B1 H1 g1 r1 => h2 σ B1 H1 (s.go g1) _ fun v2 B2 H2 g2 r2 => h3 σ B2 H2 (s.go (g1.trans g2)) _ fun v3 B3 H3 g3 r3 => h4 σ B3 H3 (s.go ((g1.trans g2).trans g3)) _ fun v4 B4 H4 g4 r4 => h5 σ B4 H4 (s.go (((g1.trans g2).trans g3).trans g4)) _ fun v5 B5 H5 g5 r5 =>
    q _ B5 H5 ((((g1.trans g2).trans g3).trans g4).trans g5) ⟨v1, v2, v3, v4, v5, rfl, R.mono (((g2.trans g3).trans g4).trans g5).b r1, S'.mono ((g3.trans g4).trans g5).b r2, U.mono (g4.trans g5).b r3, W.mono g5.b r4, r5⟩
end
end Tr

set_option maxHeartbeats 4000000
namespace Tr
open PySem L2 Mi
/-! ### the search's object -/
abbrev Sd := Tb × List Int × Int
def fl (d : Sd) : Fc := [("rows", ⟨tupR (tupR intR), d.1⟩), ("shares", ⟨tupR (tupR frR), shsM d.1⟩), ("heights", ⟨tupR frR, hgtM d.1⟩), ("best", ⟨tupR intR, d.2.1⟩), ("least", ⟨intR, d.2.2⟩)]
structure Tx (K : PySem.W.Frag) (C : Addr) : Prop where
  cl : Cls K C
  rows : NoAttr K C "rows"
  shares : NoAttr K C "shares"
  heights : NoAttr K C "heights"
  best : NoAttr K C "best"
  least : NoAttr K C "least"
theorem lk_cons {n a : Str} {c : Cell} {r : Fc} : List.lookup n ((a, c) :: r) = if n == a then some c else List.lookup n r := by
  rw [List.lookup_cons]
  cases n == a <;> rfl
theorem lk_ne {n a : Str} {c : Cell} {r : Fc} {o : Option Cell} (h : (n == a) = false) (k : List.lookup n r = o) : List.lookup n ((a, c) :: r) = o := by rw [lk_cons, h]; exact k
theorem lk_eq {n : Str} {c : Cell} {r : Fc} : List.lookup n ((n, c) :: r) = some c := by rw [lk_cons]; simp
section
variable {d : Sd}
theorem fl_rows : (fl d).lookup ("rows" : Str) = some ⟨tupR (tupR intR), d.1⟩ := lk_eq
theorem fl_shares : (fl d).lookup ("shares" : Str) = some ⟨tupR (tupR frR), shsM d.1⟩ := lk_ne (by decide +kernel) lk_eq
theorem fl_heights : (fl d).lookup ("heights" : Str) = some ⟨tupR frR, hgtM d.1⟩ := lk_ne (by decide +kernel) (lk_ne (by decide +kernel) lk_eq)
theorem fl_best : (fl d).lookup ("best" : Str) = some ⟨tupR intR, d.2.1⟩ := lk_ne (by decide +kernel) (lk_ne (by decide +kernel) (lk_ne (by decide +kernel) lk_eq))
theorem fl_least : (fl d).lookup ("least" : Str) = some ⟨intR, d.2.2⟩ := lk_ne (by decide +kernel) (lk_ne (by decide +kernel) (lk_ne (by decide +kernel) (lk_ne (by decide +kernel) lk_eq)))
theorem lk_no {n : Str} (h1 : (n == "rows") = false) (h2 : (n == "shares") = false) (h3 : (n == "heights") = false) (h4 : (n == "best") = false) (h5 : (n == "least") = false) : (fl d).lookup n = none := lk_ne h1 (lk_ne h2 (lk_ne h3 (lk_ne h4 (lk_ne h5 rfl))))
theorem lk_middle : (fl d).lookup ("middle" : Str) = none := lk_no (by decide +kernel) (by decide +kernel) (by decide +kernel) (by decide +kernel) (by decide +kernel)
theorem lk_meet : (fl d).lookup ("meet" : Str) = none := lk_no (by decide +kernel) (by decide +kernel) (by decide +kernel) (by decide +kernel) (by decide +kernel)
theorem lk_walk : (fl d).lookup ("walk" : Str) = none := lk_no (by decide +kernel) (by decide +kernel) (by decide +kernel) (by decide +kernel) (by decide +kernel)
theorem lk_step : (fl d).lookup ("step" : Str) = none := lk_no (by decide +kernel) (by decide +kernel) (by decide +kernel) (by decide +kernel) (by decide +kernel)
theorem lk_size : (fl d).lookup ("size" : Str) = none := lk_no (by decide +kernel) (by decide +kernel) (by decide +kernel) (by decide +kernel) (by decide +kernel)
theorem put_ne {n a : Str} {c e : Cell} {r t : Fc} (h : ¬ a = n) (k : putc n c r = t) : putc n c ((a, e) :: r) = (a, e) :: t := by
  show (if a = n then (a, c) :: r else (a, e) :: putc n c r) = _
  rw [if_neg h, k]
theorem put_eq {n : Str} {c e : Cell} {r : Fc} : putc n c ((n, e) :: r) = (n, c) :: r := by
  show (if n = n then (n, c) :: r else (n, e) :: putc n c r) = _
  rw [if_pos rfl]
theorem put_best {b : List Int} : putc "best" ⟨tupR intR, b⟩ (fl d) = fl (d.1, b, d.2.2) := put_ne (by decide +kernel) (put_ne (by decide +kernel) (put_ne (by decide +kernel) put_eq))
theorem put_least {b : Int} : putc "least" ⟨intR, b⟩ (fl d) = fl (d.1, d.2.1, b) := put_ne (by decide +kernel) (put_ne (by decide +kernel) (put_ne (by decide +kernel) (put_ne (by decide +kernel) put_eq)))
theorem putc_lt {n : Str} {c : Cell} : ∀ {F : Fc} {m : Nat}, F.length < m → (putc n c F).length < m + 1
  | [], m, h => by show 1 < m + 1; have h : 0 < m := h; omega
  | (a, e) :: r, m, h => by
    show (if a = n then (a, c) :: r else (a, e) :: putc n c r).length < m + 1
    rw [List.length_cons] at h
    split
    · rw [List.length_cons]; omega
    · rw [List.length_cons]
      have := putc_lt (n := n) (c := c) (F := r) (m := m - 1) (by omega)
      omega
theorem put_all {F : Tb} {s : List (List Rat)} {h : List Rat} {b : List Int} {l : Int} : putc "least" ⟨intR, l⟩ (putc "best" ⟨tupR intR, b⟩ (putc "heights" ⟨tupR frR, h⟩ (putc "shares" ⟨tupR (tupR frR), s⟩ (putc "rows" ⟨tupR (tupR intR), F⟩ [])))) = ([("rows", ⟨tupR (tupR intR), F⟩), ("shares", ⟨tupR (tupR frR), s⟩), ("heights", ⟨tupR frR, h⟩), ("best", ⟨tupR intR, b⟩), ("least", ⟨intR, l⟩)] : Fc) := by
  have e1 : putc "shares" ⟨tupR (tupR frR), s⟩ (putc "rows" ⟨tupR (tupR intR), F⟩ []) = ([("rows", ⟨tupR (tupR intR), F⟩), ("shares", ⟨tupR (tupR frR), s⟩)] : Fc) := put_ne (by decide +kernel) rfl
  have e2 : putc "heights" ⟨tupR frR, h⟩ [(("rows" : Str), ⟨tupR (tupR intR), F⟩), ("shares", ⟨tupR (tupR frR), s⟩)] = ([("rows", ⟨tupR (tupR intR), F⟩), ("shares", ⟨tupR (tupR frR), s⟩), ("heights", ⟨tupR frR, h⟩)] : Fc) := put_ne (by decide +kernel) (put_ne (by decide +kernel) rfl)
  rw [e1, e2]
  have e3 : putc "best" ⟨tupR intR, b⟩ [(("rows" : Str), ⟨tupR (tupR intR), F⟩), ("shares", ⟨tupR (tupR frR), s⟩), ("heights", ⟨tupR frR, h⟩)] = ([("rows", ⟨tupR (tupR intR), F⟩), ("shares", ⟨tupR (tupR frR), s⟩), ("heights", ⟨tupR frR, h⟩), ("best", ⟨tupR intR, b⟩)] : Fc) := put_ne (by decide +kernel) (put_ne (by decide +kernel) (put_ne (by decide +kernel) rfl))
  rw [e3]
  exact put_ne (by decide +kernel) (put_ne (by decide +kernel) (put_ne (by decide +kernel) (put_ne (by decide +kernel) rfl)))
end
section
variable {B0 H0 : Hp} {X : Cx} {O : Ob B0 H0} {G : En} {o : Expr} {C p : Addr} {d : Sd} {pos : Pos}
theorem E.f_rows (oa : OA O C p (fl d)) (ho : E X O G o adrR p) (T : Tx X.K C) (hb : attributeBase o "rows" X.env (eval o X.env) = eval o X.env := by rfl) : E X O G (.Attribute o "rows" pos) (tupR (tupR intR)) d.1 := E.fld oa ho T.cl T.rows fl_rows hb
theorem E.f_shares (oa : OA O C p (fl d)) (ho : E X O G o adrR p) (T : Tx X.K C) (hb : attributeBase o "shares" X.env (eval o X.env) = eval o X.env := by rfl) : E X O G (.Attribute o "shares" pos) (tupR (tupR frR)) (shsM d.1) := E.fld oa ho T.cl T.shares fl_shares hb
theorem E.f_heights (oa : OA O C p (fl d)) (ho : E X O G o adrR p) (T : Tx X.K C) (hb : attributeBase o "heights" X.env (eval o X.env) = eval o X.env := by rfl) : E X O G (.Attribute o "heights" pos) (tupR frR) (hgtM d.1) := E.fld oa ho T.cl T.heights fl_heights hb
theorem E.f_best (oa : OA O C p (fl d)) (ho : E X O G o adrR p) (T : Tx X.K C) (hb : attributeBase o "best" X.env (eval o X.env) = eval o X.env := by rfl) : E X O G (.Attribute o "best" pos) (tupR intR) d.2.1 := E.fld oa ho T.cl T.best fl_best hb
theorem E.f_least (oa : OA O C p (fl d)) (ho : E X O G o adrR p) (T : Tx X.K C) (hb : attributeBase o "least" X.env (eval o X.env) = eval o X.env := by rfl) : E X O G (.Attribute o "least" pos) intR d.2.2 := E.fld oa ho T.cl T.least fl_least hb
end
end Tr

set_option maxHeartbeats 4000000
namespace Tr
open PySem L2

/-! ### data of any shape -/
mutual
inductive Dr (H : Hp) : V → PyData → Prop
  | non : Dr H .non .none
  | bl (b : Bool) : Dr H (.bl b) (.bool b)
  | int (i : Int) : Dr H (.int i) (.int i)
  | str (x : Str) : Dr H (.str x) (.str x)
  | lst {p : Addr} {vs : List V} {ds : List PyData} (h : H p = some (.lst vs)) (r : DrA H vs ds) : Dr H (.ref p) (.list ds)
  | tup {p : Addr} {vs : List V} {ds : List PyData} (h : H p = some (.tup vs)) (r : DrA H vs ds) : Dr H (.ref p) (.tuple ds)
inductive DrA (H : Hp) : List V → List PyData → Prop
  | nil : DrA H [] []
  | cons {v : V} {vs : List V} {d : PyData} {ds : List PyData} (h : Dr H v d) (r : DrA H vs ds) : DrA H (v :: vs) (d :: ds)
end
section
variable {H H' : Hp}
mutual
theorem Dr.mono (e : Same H H') : ∀ {v : V} {d : PyData}, Dr H v d → Dr H' v d
  | _, _, .non => .non
  | _, _, .bl b => .bl b
  | _, _, .int i => .int i
  | _, _, .str x => .str x
  | _, _, .lst h r => .lst (e _ _ h) (DrA.mono e r)
  | _, _, .tup h r => .tup (e _ _ h) (DrA.mono e r)
theorem DrA.mono (e : Same H H') : ∀ {vs : List V} {ds : List PyData}, DrA H vs ds → DrA H' vs ds
  | _, _, .nil => .nil
  | _, _, .cons h r => .cons (Dr.mono e h) (DrA.mono e r)
end
mutual
theorem Dr.dp (K : PySem.W.Frag) : ∀ {v : V} {d : PyData}, Dr H v d → Dp K H v d
  | _, _, .non => .non
  | _, _, .bl b => .bl b
  | _, _, .int i => .int i
  | _, _, .str x => .str x
  | _, _, .lst h r => .lst (SqL.of h) (DrA.dp K r)
  | _, _, .tup h r => .tup (SqT.of h) (DrA.dp K r)
theorem DrA.dp (K : PySem.W.Frag) : ∀ {vs : List V} {ds : List PyData}, DrA H vs ds → DpAll K H vs ds
  | _, _, .nil => .nil
  | _, _, .cons h r => .cons (Dr.dp K h) (DrA.dp K r)
end
theorem DrA.prd : ∀ {vs : List V} {ds : List PyData}, DrA H vs ds → Paired (Dr H) vs ds
  | _, _, .nil => .nil
  | _, _, .cons h r => .cons h (DrA.prd r)
theorem DrA.of : ∀ {vs : List V} {ds : List PyData}, Paired (Dr H) vs ds → DrA H vs ds
  | _, _, .nil => .nil
  | _, _, .cons h r => .cons h (DrA.of r)
end
def datR : Rp PyData := ⟨fun H v d => Dr H v d, fun e h => h.mono e⟩

def isT : PyData → Bool
  | .tuple _ => true
  | _ => false
def isI : PyData → Bool
  | .int _ => true
  | .bool _ => true
  | _ => false
def isB : PyData → Bool
  | .bool _ => true
  | _ => false
def isNm : PyData → Bool
  | .int _ => true
  | _ => false
def dItems : PyData → List PyData
  | .tuple l => l
  | _ => []
def dNum : PyData → Int
  | .int i => i
  | _ => 0
/-- the program's numbers -/
structure Cs (mg : Str → Option Value) : Prop where
  most : ∃ t, mg "MOST" = some (.int 4 t)
  widest : ∃ t, mg "WIDEST" = some (.int 5 t)
  greatest : ∃ t, mg "GREATEST" = some (.int 1000 t)
theorem isNm_of {x : PyData} (h : isI x = true) (h' : isB x = false) : isNm x = true := by
  cases x with
  | int _ => rfl
  | bool _ => exact absurd (show true = false from h') (by decide)
  | _ => cases h
/-- what is known by a kind is data -/
structure Td {α : Type} (R : Rp α) (d : α → PyData) : Prop where
  h : ∀ (H : Hp) (v : V) (x : α), R.r H v x → Dr H v (d x)
section
variable {α β : Type} {R : Rp α} {d : α → PyData}
theorem tdInt : Td intR .int := ⟨fun H v x h => by cases h; exact .int x⟩
theorem tdBl : Td blR .bool := ⟨fun H v x h => by cases h; exact .bl x⟩
theorem td_all (D : Td R d) {H : Hp} : ∀ {vs : List V} {xs : List α}, Paired (R.r H) vs xs → DrA H vs (xs.map d)
  | _, _, .nil => .nil
  | _, _, .cons r t => .cons (D.h _ _ _ r) (td_all D t)
theorem tdTup (D : Td R d) : Td (tupR R) (fun xs => .tuple (xs.map d)) := ⟨fun H v x ⟨p, vs, h1, h2, h3⟩ => by subst h1; exact .tup h2 (td_all D h3)⟩
theorem tdLst (D : Td R d) : Td (lstR R) (fun xs => .list (xs.map d)) := ⟨fun H v x ⟨p, vs, h1, h2, h3⟩ => by subst h1; exact .lst h2 (td_all D h3)⟩
theorem tdTupD : Td (tupR datR) .tuple := ⟨fun H v x ⟨p, vs, h1, h2, h3⟩ => by subst h1; exact .tup h2 (.of h3)⟩
theorem tdLstD : Td (lstR datR) .list := ⟨fun H v x ⟨p, vs, h1, h2, h3⟩ => by subst h1; exact .lst h2 (.of h3)⟩
end
def tyD : PyData → String
  | .none => "NoneType"
  | .bool _ => "bool"
  | .int _ => "int"
  | .str _ => "str"
  | .list _ => "list"
  | .tuple _ => "tuple"
  | .dict _ => "dict"
theorem dr_ty (K : PySem.W.Frag) {H : Hp} {v : V} {x : PyData} (h : Dr H v x) : TyX K H v (.type (tyD x)) := by
  cases h with
  | non => exact .base .non
  | bl b => exact .base (.bl b)
  | int i => exact .base (.int i)
  | str s => exact .base (.str s)
  | lst h r => exact .base (.lst h)
  | tup h r => exact .base (.tup h)
theorem kitT (x : PyData) : kitB (tyD x) "tuple" = some (isT x) := by
  cases x with
  | none => exact (by decide +kernel : kitB "NoneType" "tuple" = some false)
  | bool _ => exact (by decide +kernel : kitB "bool" "tuple" = some false)
  | int _ => exact (by decide +kernel : kitB "int" "tuple" = some false)
  | str _ => exact (by decide +kernel : kitB "str" "tuple" = some false)
  | list _ => exact (by decide +kernel : kitB "list" "tuple" = some false)
  | tuple _ => exact (by decide +kernel : kitB "tuple" "tuple" = some true)
  | dict _ => exact (by decide +kernel : kitB "dict" "tuple" = some false)
theorem kitI (x : PyData) : kitB (tyD x) "int" = some (isI x) := by
  cases x with
  | none => exact (by decide +kernel : kitB "NoneType" "int" = some false)
  | bool _ => exact (by decide +kernel : kitB "bool" "int" = some true)
  | int _ => exact (by decide +kernel : kitB "int" "int" = some true)
  | str _ => exact (by decide +kernel : kitB "str" "int" = some false)
  | list _ => exact (by decide +kernel : kitB "list" "int" = some false)
  | tuple _ => exact (by decide +kernel : kitB "tuple" "int" = some false)
  | dict _ => exact (by decide +kernel : kitB "dict" "int" = some false)
theorem kitBo (x : PyData) : kitB (tyD x) "bool" = some (isB x) := by
  cases x with
  | none => exact (by decide +kernel : kitB "NoneType" "bool" = some false)
  | bool _ => exact (by decide +kernel : kitB "bool" "bool" = some true)
  | int _ => exact (by decide +kernel : kitB "int" "bool" = some false)
  | str _ => exact (by decide +kernel : kitB "str" "bool" = some false)
  | list _ => exact (by decide +kernel : kitB "list" "bool" = some false)
  | tuple _ => exact (by decide +kernel : kitB "tuple" "bool" = some false)
  | dict _ => exact (by decide +kernel : kitB "dict" "bool" = some false)
section
variable {B0 H0 : Hp} {α β γ δ : Type}
variable {X : Cx} {O O' : Ob B0 H0} {G : En} {e a b c tg iter : Expr} {es : List Expr} {ss rest : List Stmt} {R : Rp α} {x : α} {pos p0 p1 p2 p3 tpos : Pos} {i j : Int} {NX : NXT} {RT : RTT} {σ : L2.St} {B H : Hp}
theorem E.toD {d : α → PyData} (D : Td R d) (h : E X O G e R x) : E X O G e datR (d x) := h.conv fun B v r => D.h _ _ _ r
theorem E.tupD {x : PyData} (h : E X O G e datR x) (hx : isT x = true) : E X O G e (tupR datR) (dItems x) := h.conv fun B v r => by
  cases x with
  | tuple l => cases r with | tup h r => exact ⟨_, _, rfl, h, r.prd⟩
  | _ => cases hx
theorem E.intD {x : PyData} (h : E X O G e datR x) (hx : isNm x = true) : E X O G e intR (dNum x) := h.conv fun B v r => by
  cases x with
  | int l => cases r with | int i => rfl
  | _ => cases hx
theorem E.nonD {j : Nat} : E X O G (.Constant .none j pos) datR .none := E.of pe_non fun σ B H s Q q => q _ B H s.refl .non
theorem E.strD {j : Nat} {z : Str} : E X O G (.Constant (.str z) j pos) datR (.str z) := E.of pe_str fun σ B H s Q q => q _ B H s.refl (.str z)
/-- a whole number by a name of the module -/
theorem E.gInt {n : Str} {z : Int} (h : ∃ t, X.mg n = some (.int z t)) (hg : Gl X n := by rfl) (hd : (n == ("__debug__" : Str)) = false := by decide) : E X O G (.Name n pos) intR z :=
  let ⟨t, hm⟩ := h
  E.of (pe_glob (v := .int z) hg hm ⟨t, rfl⟩ hd) fun σ B H s Q q => q _ B H s.refl rfl
/-- rows of whole numbers out of data -/
def dRow (x : PyData) : List Int := (dItems x).map dNum
def dTab (x : PyData) : List (List Int) := (dItems x).map dRow
theorem prd_row {B : Hp} : ∀ {vs : List V} {ds : List PyData}, Paired (Dr B) vs ds → (∀ y ∈ ds, isNm y = true) → Paired (intR.r B) vs (ds.map dNum)
  | _, _, .nil, _ => .nil
  | _, _, .cons (a := v) (b := d) r t, h => .cons (by
      have hd := h d (List.mem_cons_self ..)
      cases d with
      | int i => cases r; exact rfl
      | _ => cases hd) (prd_row t fun y hy => h y (List.mem_cons_of_mem _ hy))
theorem prd_tab {B : Hp} : ∀ {vs : List V} {ds : List PyData}, Paired (Dr B) vs ds → (∀ y ∈ ds, isT y = true ∧ ∀ z ∈ dItems y, isNm z = true) → Paired ((tupR intR).r B) vs (ds.map dRow)
  | _, _, .nil, _ => .nil
  | _, _, .cons (a := v) (b := d) r t, h => .cons (by
      have hd := h d (List.mem_cons_self ..)
      cases d with
      | tuple l => cases r with | tup h r => exact ⟨_, _, rfl, h, prd_row r.prd hd.2⟩
      | _ => cases hd.1) (prd_tab t fun y hy => h y (List.mem_cons_of_mem _ hy))
theorem E.tabD {x : PyData} (h : E X O G e datR x) (hx : isT x = true ∧ ∀ y ∈ dItems x, isT y = true ∧ ∀ z ∈ dItems y, isNm z = true) : E X O G e (tupR (tupR intR)) (dTab x) := h.conv fun B v r => by
  cases x with
  | tuple l => cases r with | tup h r => exact ⟨_, _, rfl, h, prd_tab r.prd hx.2⟩
  | _ => cases hx.1
theorem E.isiD {n : String} {c : Str} {x : PyData} {k : Bool} (ha : E X O G a datR x) (hk : kitB (tyD x) n = some k) (hm : X.mg "isinstance" = none) (hc : X.mg c = none) (hv : bootBuiltins c = some (.type n)) (hg : Gl X "isinstance" := by rfl) (hg2 : Gl X c := by rfl)
    (na : NS a := by exact fun _ _ => rfl) (hn : c ≠ "__name__" := by decide) (hd : (c == ("__debug__" : Str)) = false := by decide) : E X O G (.Call (.Name "isinstance" p0) [a, .Name c p1] [] pos) blR k :=
  E.of (pe_callB call_isi hg hm (by decide +kernel) (pa_cons semPE (pa_cons (pe_bltn (v := .ty n) hg2 hc hv rfl hn hd) pa_nil) (na _ _)) (by decide) (by decide) (na _ _) rfl) fun σ B H s Q q => ha σ B H s _ fun v B1 H1 g1 r1 =>
    ⟨v, .ty n, .type (tyD x), .type n, k, rfl, .ty n, dr_ty _ (datR.mono g1.s r1), kit_ty hk, q _ B1 H1 g1 rfl⟩
/-- str(i) -/
theorem E.strI (ha : E X O G e intR i) (hz : i.natAbs < 2 ^ 1000) (hm : X.mg "str" = none) (hg : Gl X "str" := by rfl) (ns : NS e := by exact fun _ _ => rfl) : E X O G (.Call (.Name "str" p0) [e] [] pos) datR (.str (Str.ofString (toString i))) :=
  E.bty call_str_int (EA.one ha ns) (fun vs B H Q s ⟨u, h1, h2⟩ q => ⟨i, by rw [h1, h2], by
    by_cases h0 : i.natAbs = 0
    · rw [h0]; decide
    · exact Nat.lt_trans ((Nat.log2_lt h0).mpr hz) (by decide), q _ B H (.refl s) (.str _)⟩) hm (by decide +kernel) hg ns
theorem strOk_int (i : Int) : PyData.strOk (Str.ofString (toString i)) = true := by
  unfold PyData.strOk
  rw [Array.all_eq_true_iff_forall_mem]
  intro k hk
  refine decide_eq_true (Nat.lt_of_not_le fun hle => ?_)
  exact PyProof.Rows.int_text_free' k ⟨by omega, by omega⟩ i (Array.mem_toList_iff.mpr hk)
end
/-! ### t[::-1] of a tuple -/
section
variable {prog : Program} {w : World} {A : Around} {E : Value → Shared → Prop} {s : Shared}
theorem slice_rev {sl : Addr} {vs : Value} {n : Nat} {Q : Int × Int × Nat → Shared → Prop} (hs : s.heap.IsSliceOf sl .none .none vs) (ps : IsPart vs (some (-1)))
    (h : Q ((n : Int) - 1, -1, n) s) : wpAny (model prog w) A (Builtin.Slice.sliceApplied (.ref sl) (pure (n : Int))) Q E s := by
  obtain ⟨os, hos, hcs, hds⟩ := id hs
  unfold Builtin.Slice.sliceApplied Builtin.Slice.sliceFields
  refine wpAny_bind (wpAny_bind (wpAny_field hos hds (x := .none) rfl (wpAny_bind (wpAny_field hos hds (x := .none) rfl (wpAny_bind (wpAny_field hos hds (x := vs) rfl (wpAny_pure ?_)))))))
  refine wpAny_bind (HT.slicePart_ ps ?_)
  show wpAny _ _ (if ((-1 : Int) == 0) = true then _ else _) _ _ s
  rw [if_neg (by decide)]
  refine wpAny_bind (HT.slicePart_ .none (wpAny_bind (HT.slicePart_ .none (wpAny_bind (wpAny_pure ?_)))))
  show wpAny _ _ (match Builtin.Slice.sliceAdjust none none (-1) (n : Int) with | (lo, hi) => pure (lo, (-1 : Int), Builtin.Slice.slicePlaces lo hi (-1))) _ _ s
  have e1 : Builtin.Slice.sliceAdjust none none (-1) (n : Int) = ((n : Int) - 1, -1) := rfl
  rw [e1]
  have e2 : Builtin.Slice.slicePlaces ((n : Int) - 1) (-1) (-1) = n := by
    unfold Builtin.Slice.slicePlaces
    rw [if_neg (by decide)]
    split
    · have e : ((n : Int) - 1 - -1 - 1) / (- -1) + 1 = (n : Int) := by
        rw [show (- -1 : Int) = 1 by decide, Int.ediv_one]
        omega
      rw [e, Int.toNat_natCast]
    · omega
  show wpAny _ _ (pure ((n : Int) - 1, (-1 : Int), Builtin.Slice.slicePlaces ((n : Int) - 1) (-1) (-1))) _ _ s
  rw [e2]
  exact wpAny_pure h
theorem fm_congr {α β : Type} {f g : α → Option β} : ∀ {l : List α}, (∀ x ∈ l, f x = g x) → l.filterMap f = l.filterMap g
  | [], _ => rfl
  | a :: r, h => by
    rw [List.filterMap_cons, List.filterMap_cons, h a (List.mem_cons_self ..), fm_congr fun x hx => h x (List.mem_cons_of_mem _ hx)]
theorem pick_rev (xs : Array Value) : ((List.range xs.size).filterMap fun (m : Nat) => xs[((xs.size : Int) - 1 + (m : Int) * -1).toNat]?).toArray = xs.toList.reverse.toArray := by
  have e : (List.range xs.size).filterMap (fun (m : Nat) => xs[((xs.size : Int) - 1 + (m : Int) * -1).toNat]?) = (List.range xs.size).filterMap ((xs[·]?) ∘ fun k => xs.size - 1 - k) := by
    refine fm_congr fun m hm => ?_
    have := List.mem_range.mp hm
    have q : ((xs.size : Int) - 1 + (m : Int) * -1).toNat = xs.size - 1 - m := by omega
    show xs[((xs.size : Int) - 1 + (m : Int) * -1).toNat]? = xs[xs.size - 1 - m]?
    rw [q]
  rw [e, ← List.filterMap_map, PySem.W.krv_range, List.filterMap_reverse, PySem.W.krv_all]
theorem getItem_tuple_rev {t sl : Addr} {items : Array Value} {vs : Value} {Q : Value → Shared → Prop} (ht : PyProof.Rows.IsTup s.heap t items) (hs : s.heap.IsSliceOf sl .none .none vs) (ps : IsPart vs (some (-1)))
    (h : Q (.ref s.heap.objs.size) { s with heap := s.heap.push { cls := .type "tuple", data := .seq items.toList.reverse.toArray } })
    (hsz : items.size ≤ sizeLine) : wpAny (model prog w) A (getItem (.ref t) (.ref sl)) Q E s := by
  have htake : sizeOk (.seq items.toList.reverse.toArray) := by
    show items.toList.reverse.toArray.size ≤ sizeLine
    rw [List.size_toArray, List.length_reverse, Array.length_toList]
    exact hsz
  obtain ⟨os, hos, hcs, hds⟩ := id hs
  have hTs : s.TypeIs (.ref sl) "slice" := ⟨os, hos, hcs⟩
  unfold getItem
  try with_reducible refine wpAny_holding ?_
  first | refine wpAny_bind (wpAny_pure ?_) | skip
  refine wpAny_bind (wpAny_sequenceKey ht.typeIs (by decide) ?_)
  refine wpAny_bind (wpAny_callSpecial?_slot (name := Str.ofString "__getitem__") ht.typeIs PyProof.Rows.slot_tuple_getitem
    (wpAny_call_entry PyProof.Rows.slot_tuple_getitem ht.typeIs PyProof.Rows.entry_tuple_getitem ?_ (PyProof.Rows.args_tuple_getitem _ _)))
  show wpAny _ _ (Builtin.Tuple.tupleItemsOf (.ref t) >>= _) _ _ s
  refine wpAny_bind (PyProof.Rows.tupleItemsOf_ ht ?_)
  refine wpAny_bind (wpAny_typeOf hTs ?_)
  rw [if_pos (by decide)]
  refine wpAny_bind (slice_rev hs ps ?_)
  have hno : ¬ ((((items.size : Nat) : Int) - 1 == 0 && (-1 : Int) == 1 && items.size == items.size) = true) := by
    intro q
    rw [Bool.and_eq_true, Bool.and_eq_true] at q
    have q1 : (-1 : Int) = 1 := eq_of_beq q.1.2
    omega
  show wpAny _ _ (if (((items.size : Nat) : Int) - 1 == 0 && (-1 : Int) == 1 && items.size == items.size) = true then _ else _) _ _ s
  rw [if_neg hno, pick_rev]
  first
    | exact wpAny_bind (m := Builtin.Tuple.tupleExact _) (wpAny_newObj_type (wpAny_pure ⟨_, rfl, wpAny_pure h⟩) htake)
    | exact wpAny_bind (m := Builtin.Tuple.tupleExact _) (wpAny_newObj_type (wpAny_bind (wpAny_pure (wpAny_pure ⟨_, rfl, wpAny_pure h⟩))) htake)
    | exact wpAny_bind (wpAny_bind (m := Builtin.Tuple.tupleExact _) (wpAny_newObj_type (wpAny_pure (wpAny_pure ⟨_, rfl, wpAny_pure h⟩)) htake))
    | exact wpAny_bind (wpAny_bind (m := Builtin.Tuple.tupleExact _) (wpAny_newObj_type (wpAny_pure ⟨_, rfl, wpAny_pure h⟩) htake))
end
def tRevT (K : PySem.W.Frag) (te : TE) : TE := fun σ H Q => te σ H fun x H1 => ∃ a xs, x = .ref a ∧ SqT K H1 a xs ∧ ∀ p, H1 p = none → Q (.ref p) (upd H1 p (.tup xs.reverse))
theorem pe_revT {X : Cx} {e : Expr} {te : TE} {k : Nat} {p1 p2 p3 pos : Pos} (he : PE X e te) : PE X (.Subscript e (.Slice none none (some (.UnaryOp .USub (.Constant (.int 1) k p1) p2)) p3) pos) (tRevT X.K te) := by
  refine ⟨fun pins s σ H Q I h => ?_⟩
  refine PyProof.Rows.Subscript_ (thn (he.run pins s σ H _ I h) fun v s1 ⟨x, H1, I1, r1, q1⟩ => ?_)
  obtain ⟨a, xs, ex, hx, q⟩ := q1
  subst ex
  cases r1
  have hst : PO X (some (.UnaryOp .USub (.Constant (.int 1) k p1) p2)) (tPart (tUn (rU fun i => .int (-i)) (tC (.int 1)))) := po_some (pe_un un_neg pe_int)
  refine wpAny_Slice (thn (po_none.run pins s1 σ H1 (fun o H2 => o = none ∧ H2 = H1) I1 ⟨rfl, rfl⟩) fun vl s2 ⟨l, H2, I2, pl, el, e2⟩ => ?_)
  subst el e2
  refine thn (po_none.run pins s2 σ H2 (fun o H3 => o = none ∧ H3 = H2) I2 ⟨rfl, rfl⟩) fun vu s3 ⟨u, H3, I3, pu, eu, e3⟩ => ?_
  subst eu e3
  refine thn (hst.run pins s3 σ H3 (fun o H4 => o = some (-1) ∧ H4 = H3) I3 ⟨1, rfl, -1, rfl, rfl, rfl⟩) fun vs s4 ⟨o, H4, I4, ps, eo, e4⟩ => ?_
  subst eo e4
  cases pl
  cases pu
  have I5 : Inv X pins σ H4 { s4 with heap := s4.heap.push { cls := .type "slice", data := .fields #[.none, .none, vs] } } := I4.kept (t' := s4.toks) fun b ob q => Heap.get?_push_of_some _ q
  obtain ⟨its, r, ht, hz⟩ := I5.tuple hx
  have hlen := r.length
  show wpAny (model X.prog X.w) X.A (PyProof.Rows.subscriptTail e (.Slice none none (some (.UnaryOp .USub (.Constant (.int 1) k p1) p2)) p3) (.ref a) (.ref s4.heap.objs.size)) (EP X pins σ Q) X.xe { s4 with heap := s4.heap.push { cls := .type "slice", data := .fields #[.none, .none, vs] } }
  refine PyProof.Rows.tail_any (ops := [.ref a, .ref s4.heap.objs.size]) ht.typeIs (PyProof.Rows.slot_tuple_getitem.lookup) ?_ (by with_unfolding_all rfl)
  refine getItem_tuple_rev ht (Heap.IsSliceOf.new _ .none .none vs) ps ?_ (by rw [List.size_toArray, ← hlen]; exact hz)
  refine ⟨.ref _, _, I5.laid (t' := s4.toks) (o := .tup xs.reverse) (fun b ob q => Heap.get?_push_of_some _ q) (Nat.le_refl _) ?_, rfl, q _ (I5.hok.fresh (Nat.le_refl _))⟩
  exact ⟨by rw [List.length_reverse]; exact hz, _, r.reverse, PyProof.Rows.IsTup.new _ _⟩

/-! ### a dict of whole numbers -/
def insK (ks : List Int) (i : Int) : List Int := if i ∈ ks then ks else ks ++ [i]
abbrev kT (k : Int) : Key × V := (.inl k, .bl true)
theorem put_ks (ks : List Int) (i : Int) : putK (ks.map kT) (.inl i) (.bl true) = (insK ks i).map kT := by
  have e1 : ((ks.map kT).any fun kv => decide (kv.1 = .inl i)) = decide (i ∈ ks) := by
    induction ks with
    | nil => rfl
    | cons k r ih =>
      rw [List.map_cons, List.any_cons, ih]
      by_cases h : k = i
      · subst h; simp
      · have h' : ¬ i = k := fun z => h z.symm
        have h2 : ¬ ((Sum.inl k : Key) = Sum.inl i) := fun z => h (Sum.inl.inj z)
        simp [h', h2]
  unfold putK insK
  rw [e1]
  by_cases h : i ∈ ks
  · rw [if_pos (decide_eq_true h), if_pos h, List.map_map]
    refine List.map_congr_left fun k hk => ?_
    show (if (Sum.inl k : Key) = Sum.inl i then ((Sum.inl k : Key), V.bl true) else kT k) = kT k
    split <;> rfl
  · rw [if_neg (by simpa using h), if_neg h, List.map_append]
    rfl
/-- a dict at p that the def may still change -/
def mdo (B0 H0 : Hp) (p : Addr) (ks : List Int) : Ob B0 H0 :=
  ⟨fun B H => Go B0 H0 B H ∧ H0 p = none ∧ B p = none ∧ H p = some (.dK (ks.map kT)),
   fun ⟨a, h0, hb, h1⟩ g => ⟨a.trans g, h0, g.f p hb (by rw [h1]; exact fun q => nomatch q), g.h _ _ h1⟩, fun a => a.1⟩
theorem call_lenDK {X : Cx} : CallR X (.builtin "len") (fun xs H Q => ∃ p kvs, xs = [.ref p] ∧ H p = some (.dK kvs) ∧ Q (.int kvs.length) H) := by
  intro pins s σ H xs us Q I r h
  obtain ⟨p, kvs, rfl, e, q⟩ := h
  obtain ⟨u, rfl, r1⟩ := vals1 r
  cases r1
  exact d_len I (.inl e) fun t s' I' => ⟨.int _, H, I', ⟨t, rfl⟩, q⟩
section
variable {B0 H0 : Hp} {α β γ δ : Type}
variable {X : Cx} {O O' : Ob B0 H0} {G : En} {e a b c tg iter : Expr} {es : List Expr} {ss rest : List Stmt} {R : Rp α} {x : α} {pos p0 p1 p2 p3 tpos : Pos} {i j : Int} {NX : NXT} {RT : RTT} {σ : L2.St} {B H : Hp}
theorem prd_rev {F : V → α → Prop} : ∀ {vs : List V} {xs : List α}, Paired F vs xs → Paired F vs.reverse xs.reverse
  | _, _, .nil => .nil
  | _, _, .cons r t => by
    rw [List.reverse_cons, List.reverse_cons]
    exact prd_app (prd_rev t) (.cons r .nil)
theorem E.revT {xs : List α} {k : Nat} (h : E X O G e (tupR R) xs) : E X O G (.Subscript e (.Slice none none (some (.UnaryOp .USub (.Constant (.int 1) k p1) p2)) p3) pos) (tupR R) xs.reverse :=
  E.of (pe_revT semPE) fun σ B H s Q q => h σ B H s _ fun v B1 H1 g1 ⟨p, vs, e1, h1, h2⟩ =>
    ⟨p, vs, e1, SqT.of (g1.s _ _ h1), fun c hc => q _ _ _ (g1.trans (Go.new g1.s hc)) ⟨c, _, rfl, upd_same, prd_mono (Go.new g1.s hc).b (prd_rev h2)⟩⟩
theorem S.setD (k : Nat) {n : Str} (hN : X.N.Nodup) (h : ∀ p, S X (mdo B0 H0 p []) (G.set k (some ⟨adrR, p⟩)) rest NX RT)
    (hi : X.N[k]? = some n := by rfl) (hx : Loc X.env.scope n := by first | exact Or.inl rfl | exact Or.inr rfl) (hs : swapsWith (.Dict [] [] p2) (some (.Name n p1)) pos.line X.env = pure false := by rfl) (hf : X.fn n = true ∨ X.env.scope.names.lookup n = some .local := by first | exact .inl rfl | exact .inr rfl) : S X (bo B0 H0) G (.Assign [.Name n p1] (.Dict [] [] p2) pos :: rest) NX RT :=
  S.seq (ps_set (i := k) hN hi hx pe_dnewK hs hf) fun σ B H s D nx r => fun p hp => Sat.run (h p) (.refl B) nx r
    (((s.go (Go.ltr s.sm hp)).ob (O' := mdo B0 H0 p []) fun o => ⟨o, s.o.h.free hp, s.sm.free hp, upd_same⟩).set (R := adrR) (x := p) k rfl)
theorem S.stoD {p : Addr} {ks : List Int} (k : Nat) {n : Str} {u j1 : Nat} (hr : Room u X.A) (hg : G[k]? = some (some ⟨adrR, p⟩)) (he : E X (mdo B0 H0 p ks) G e intR i) (hl : ks.length ≤ 10000) (h : S X (mdo B0 H0 p (insK ks i)) G rest NX RT)
    (hN : X.N[k]? = some n := by rfl) (hv : Vis X.env.scope n := by first | exact Or.inl rfl | exact Or.inr (Or.inl rfl) | exact Or.inr (Or.inr rfl)) (hd : (n == ("__debug__" : Str)) = false := by decide) (hcd : (n == ("__classdict__" : Str)) = false := by decide)
    (hs : swapsWith (.Constant (.bool true) j1 p2) (some (.Subscript (.Name n p1) e tpos)) pos.line X.env = pure false := by rfl) :
    S X (mdo B0 H0 p ks) G (.Assign [.Subscript (.Name n p1) e tpos] (.Constant (.bool true) j1 p2) pos :: rest) NX RT := by
  refine S.seq (ps_dput (by have := hu64 hr; omega) (pe_var hN hv hd hcd) semPE pe_bl hs) fun σ B H s D nx r => ?_
  obtain ⟨v, e1, ev⟩ := s.c k _ hg
  have e3 : v = .ref p := ev
  subst e3
  refine ⟨.ref p, e1, ?_⟩
  refine he σ B H s _ fun w2 B2 H2 g2 r2 => ?_
  have s2 := s.go g2
  obtain ⟨go2, h0, hb2, hp2⟩ := id s2.o
  have e4 : w2 = .int i := r2
  subst e4
  refine ⟨p, _, rfl, DPut.k (k := .inl i) hp2 (by rw [List.length_map]; exact Nat.lt_of_le_of_lt hl (by decide)), ?_⟩
  exact Sat.run h g2.b nx r ⟨⟨go2.wr h0 hb2, h0, hb2, by rw [upd_same, put_ks]⟩, s2.len, s2.c⟩
theorem E.lenDK {p : Addr} {ks : List Int} (k : Nat) {n : Str} (hg : G[k]? = some (some ⟨adrR, p⟩)) (hm : X.mg "len" = none) (hgl : Gl X "len" := by rfl) (hN : X.N[k]? = some n := by rfl) (hv : Vis X.env.scope n := by first | exact Or.inl rfl | exact Or.inr (Or.inl rfl) | exact Or.inr (Or.inr rfl)) (hd : (n == ("__debug__" : Str)) = false := by decide)
    (hcd : (n == ("__classdict__" : Str)) = false := by decide) : E X (mdo B0 H0 p ks) G (.Call (.Name "len" p0) [.Name n p1] [] pos) intR (ks.length : Int) :=
  E.of (pe_callB call_lenDK hgl hm PySem.boot_len (pa_cons (pe_var hN hv hd hcd) pa_nil (by rfl)) (by decide) (by decide) (by rfl) rfl) fun σ B H s Q q => by
    obtain ⟨v, e1, ev⟩ := s.c k _ hg
    have e3 : v = .ref p := ev
    subst e3
    obtain ⟨go, h0, hb, hp⟩ := id s.o
    refine ⟨.ref p, e1, ?_⟩
    refine ⟨p, _, rfl, hp, ?_⟩
    rw [List.length_map]
    exact q _ B H s.refl rfl
end
end Tr

set_option maxHeartbeats 4000000
namespace Tr
open PySem L2 Mi

/-! ### data that can be compared -/
structure Wf (n : Nat) (x : PyData) : Prop where
  lay : x.canLay0 = true
  dep : x.depth ≤ n
theorem Wf.le {n m : Nat} {x : PyData} (h : Wf n x) (hm : n ≤ m) : Wf m x := ⟨h.lay, Nat.le_trans h.dep hm⟩
theorem lay_all : ∀ {l : List PyData}, PyData.canLayAll0 l = true ↔ ∀ y ∈ l, y.canLay0 = true
  | [] => by simp [PyData.canLayAll0]
  | x :: xs => by simp [PyData.canLayAll0, lay_all (l := xs)]
theorem dep_all {n : Nat} : ∀ {l : List PyData}, PyData.depthAll l ≤ n ↔ ∀ y ∈ l, y.depth ≤ n
  | [] => by simp [PyData.depthAll]
  | x :: xs => by
    have ih := dep_all (n := n) (l := xs)
    simp only [PyData.depthAll, List.mem_cons, forall_eq_or_imp, ← ih]
    omega
theorem wf_tup {n : Nat} {l : List PyData} (h : ∀ y ∈ l, Wf n y) : Wf (n + 1) (.tuple l) := ⟨by
  simp only [PyData.canLay0]
  exact lay_all.mpr fun y hy => (h y hy).lay, by
  have := dep_all.mpr fun y hy => (h y hy).dep
  simp only [PyData.depth]
  omega⟩
theorem wf_lst {n : Nat} {l : List PyData} (h : ∀ y ∈ l, Wf n y) : Wf (n + 1) (.list l) := ⟨by
  simp only [PyData.canLay0]
  exact lay_all.mpr fun y hy => (h y hy).lay, by
  have := dep_all.mpr fun y hy => (h y hy).dep
  simp only [PyData.depth]
  omega⟩
theorem wf_in {n : Nat} {x y : PyData} (h : Wf (n + 1) x) (hy : y ∈ dItems x) : Wf n y := by
  cases x with
  | tuple l =>
    have h1 := h.lay
    have h2 := h.dep
    simp only [PyData.canLay0] at h1
    simp only [PyData.depth] at h2
    exact ⟨lay_all.mp h1 y hy, dep_all.mp (show PyData.depthAll l ≤ n by omega) y hy⟩
  | _ => exact absurd hy (List.not_mem_nil)
theorem wf_int (i : Int) : Wf 0 (.int i) := ⟨by simp [PyData.canLay0], by simp [PyData.depth]⟩
theorem wf_bl (i : Bool) : Wf 0 (.bool i) := ⟨by simp [PyData.canLay0], by simp [PyData.depth]⟩
theorem wf_non : Wf 0 .none := ⟨by simp [PyData.canLay0], by simp [PyData.depth]⟩
theorem wf_str {x : Str} (h : PyData.strOk x = true) : Wf 0 (.str x) := ⟨by simpa [PyData.canLay0] using h, by simp [PyData.depth]⟩
section
variable {B0 H0 : Hp} {X : Cx} {O : Ob B0 H0} {G : En} {a b : Expr} {pos : Pos}
theorem T.neL {xs : List PyData} {k : Nat} (hr : Room k X.A) (ha : E X O G a (lstR datR) xs) (hb : E X O G b (lstR datR) []) (hw : ∀ y ∈ xs, Wf 60 y) : T X O G (.Compare a [.NotEq] [b] pos) (!xs.isEmpty) :=
  T.cmp (op_neD (hu64 hr)) (nomark _) ha hb fun v w B H Q s r1 r2 q => by
    have w1 : Wf 61 (.list xs) := wf_lst hw
    have w2 : Wf 61 (.list []) := wf_lst (n := 60) fun y hy => absurd hy (List.not_mem_nil)
    have sh : ∀ d : PyData, Wf 61 d → SeqAt.shaped d = true := fun d h => by
      unfold SeqAt.shaped
      rw [h.lay, decide_eq_true (Nat.le_trans h.dep (by decide))]
      rfl
    refine ⟨.list xs, .list [], Dr.dp _ (tdLstD.h _ _ _ ((lstR datR).mono s r1)), Dr.dp _ (tdLstD.h _ _ _ ((lstR datR).mono s r2)), sh _ w1, sh _ w2, ?_⟩
    have e : PyData.eqv (.list xs) (.list []) = xs.isEmpty := by cases xs <;> simp [PyData.eqv, PyData.eqvAll]
    rw [e]
    exact q B H (.refl s)
end

/-! ### are they given rows: the program's way, the law's -/
def goodP (y : PyData) : Bool := isI y && (!isB y && decide (((dNum y).natAbs : Int) ≤ 1000))
def isRowM (x : PyData) (w : Int) : Bool := isT x && (decide (((dItems x).length : Int) = w) && (dItems x).all goodP)
def areM (x : PyData) : Bool := isT x && (decide (1 ≤ (dItems x).length ∧ (dItems x).length ≤ 4) && (isT ((dItems x).getD 0 .none) &&
  (decide (1 ≤ (dItems ((dItems x).getD 0 .none)).length ∧ (dItems ((dItems x).getD 0 .none)).length ≤ 5) && ((dItems x).all (fun r => isRowM r ((dItems ((dItems x).getD 0 .none)).length : Int)) && !decide (vol (dTab x) = 0)))))
def lawRowM (y : PyData) : Bool := isT y && (decide (1 ≤ (dItems y).length ∧ (dItems y).length ≤ 5) && (dItems y).all goodP)
def lensM (l : List PyData) : List Int := (l.map fun y => ((dItems y).length : Int)).foldl insK []
def lawAreM (x : PyData) : Bool := isT x && (decide (1 ≤ (dItems x).length ∧ (dItems x).length ≤ 4) && ((dItems x).all lawRowM && (decide ((lensM (dItems x)).length = 1) && !decide (vol (dTab x) = 0))))
theorem chain_f {a b c : Int} (h : (!(decide (a ≤ b) && decide (b ≤ c))) = false) : a ≤ b ∧ b ≤ c := by
  rw [Bool.not_eq_false', Bool.and_eq_true] at h
  exact ⟨of_decide_eq_true h.1, of_decide_eq_true h.2⟩
theorem goodP_n {y : PyData} (h : goodP y = true) : isNm y = true ∧ (dNum y).natAbs ≤ 1000 := by
  unfold goodP at h
  rw [Bool.and_eq_true, Bool.and_eq_true] at h
  exact ⟨isNm_of h.1 (by simpa using h.2.1), by have := of_decide_eq_true h.2.2; omega⟩
def badP (y : PyData) : Bool := !isI y || (isB y || decide (((dNum y).natAbs : Int) > 1000))
theorem badP_eq (y : PyData) : badP y = !goodP y := by
  unfold badP goodP
  rw [Bool.not_and, Bool.not_and, Bool.not_not]
  congr 2
  by_cases h : ((dNum y).natAbs : Int) ≤ 1000
  · rw [decide_eq_true h, decide_eq_false (by omega)]; rfl
  · rw [decide_eq_false h, decide_eq_true (by omega)]; rfl
theorem bad_nil (l : List PyData) : ((l.filter badP).map fun u => u).isEmpty = l.all goodP := by
  induction l with
  | nil => rfl
  | cons a r ih =>
    rw [List.filter_cons, List.all_cons, badP_eq]
    cases h : goodP a with
    | true => simpa using ih
    | false => rfl
theorem isRowM_iff {x : PyData} {w : Int} : isRowM x w = true ↔ isT x = true ∧ ((dItems x).length : Int) = w ∧ ∀ y ∈ dItems x, goodP y = true := by
  unfold isRowM
  rw [Bool.and_eq_true, Bool.and_eq_true, decide_eq_true_iff, List.all_eq_true]
theorem lawRowM_iff {x : PyData} : lawRowM x = true ↔ isT x = true ∧ (1 ≤ (dItems x).length ∧ (dItems x).length ≤ 5) ∧ ∀ y ∈ dItems x, goodP y = true := by
  unfold lawRowM
  rw [Bool.and_eq_true, Bool.and_eq_true, decide_eq_true_iff, List.all_eq_true]
theorem insK_le (l : List Int) : ∀ ks : List Int, ks.length ≤ (l.foldl insK ks).length := by
  induction l with
  | nil => intro ks; exact Nat.le_refl _
  | cons a r ih =>
    intro ks
    refine Nat.le_trans ?_ (ih (insK ks a))
    unfold insK
    split
    · exact Nat.le_refl _
    · rw [List.length_append]; omega
theorem insK_one (a : Int) : ∀ l : List Int, (l.foldl insK [a]).length = 1 ↔ ∀ b ∈ l, b = a
  | [] => by simp
  | b :: r => by
    rw [List.foldl_cons]
    by_cases h : b = a
    · subst h
      have e : insK [b] b = [b] := by unfold insK; rw [if_pos (by simp)]
      rw [e, insK_one b r]
      simp
    · have e : insK [a] b = [a, b] := by unfold insK; rw [if_neg (by simpa using h)]; rfl
      rw [e]
      have := insK_le r [a, b]
      constructor
      · intro z
        rw [z] at this
        simp at this
      · intro z
        exact absurd (z b (List.mem_cons_self ..)) h
theorem lens_iff {a : PyData} {r : List PyData} : (lensM (a :: r)).length = 1 ↔ ∀ y ∈ a :: r, (dItems y).length = (dItems a).length := by
  unfold lensM
  rw [List.map_cons, List.foldl_cons]
  have e : insK [] ((dItems a).length : Int) = [((dItems a).length : Int)] := by unfold insK; rw [if_neg (by simp)]; rfl
  rw [e, insK_one]
  simp
  exact ⟨fun h y hy => by have := h y hy; omega, fun h y hy => by have := h y hy; omega⟩
theorem areM_iff {x : PyData} : areM x = true ↔ isT x = true ∧ (1 ≤ (dItems x).length ∧ (dItems x).length ≤ 4) ∧ isT ((dItems x).getD 0 .none) = true ∧
    (1 ≤ (dItems ((dItems x).getD 0 .none)).length ∧ (dItems ((dItems x).getD 0 .none)).length ≤ 5) ∧ (∀ r ∈ dItems x, isRowM r ((dItems ((dItems x).getD 0 .none)).length : Int) = true) ∧ vol (dTab x) ≠ 0 := by
  unfold areM
  simp only [Bool.and_eq_true, decide_eq_true_iff, List.all_eq_true, Bool.not_eq_true', decide_eq_false_iff_not, ne_eq]
theorem lawAreM_iff {x : PyData} : lawAreM x = true ↔ isT x = true ∧ (1 ≤ (dItems x).length ∧ (dItems x).length ≤ 4) ∧ (∀ r ∈ dItems x, lawRowM r = true) ∧ (lensM (dItems x)).length = 1 ∧ vol (dTab x) ≠ 0 := by
  unfold lawAreM
  simp only [Bool.and_eq_true, decide_eq_true_iff, List.all_eq_true, Bool.not_eq_true', decide_eq_false_iff_not, ne_eq]
theorem are_same (x : PyData) : areM x = lawAreM x := by
  rw [Bool.eq_iff_iff, areM_iff, lawAreM_iff]
  cases hl : dItems x with
  | nil => simp
  | cons a r =>
    rw [lens_iff]
    have e : (a :: r).getD 0 PyData.none = a := rfl
    rw [e]
    constructor
    · rintro ⟨h1, h2, h3, h4, h5, h6⟩
      refine ⟨h1, h2, fun y hy => ?_, fun y hy => ?_, h6⟩
      · obtain ⟨p, q, s⟩ := isRowM_iff.mp (h5 y hy)
        exact lawRowM_iff.mpr ⟨p, by omega, s⟩
      · obtain ⟨p, q, s⟩ := isRowM_iff.mp (h5 y hy)
        omega
    · rintro ⟨h1, h2, h3, h4, h6⟩
      obtain ⟨p, q, s⟩ := lawRowM_iff.mp (h3 a (List.mem_cons_self ..))
      refine ⟨h1, h2, p, q, fun y hy => ?_, h6⟩
      obtain ⟨p', q', s'⟩ := lawRowM_iff.mp (h3 y hy)
      exact isRowM_iff.mpr ⟨p', by have := h4 y hy; omega, s'⟩
theorem tab_rw {x : PyData} {w : Nat} (hn : (dItems x).length ≤ 4) (hw : w ≤ 5) (h : ∀ r ∈ dItems x, isT r = true ∧ (dItems r).length = w ∧ ∀ y ∈ dItems r, goodP y = true) : Rw (dTab x) w :=
  ⟨by unfold dTab; rw [List.length_map]; exact hn, hw, fun r hr => by
    unfold dTab at hr
    obtain ⟨y, hy, rfl⟩ := List.mem_map.mp hr
    unfold dRow
    rw [List.length_map]
    exact (h y hy).2.1, fun r hr z hz => by
    unfold dTab at hr
    obtain ⟨y, hy, rfl⟩ := List.mem_map.mp hr
    unfold dRow at hz
    obtain ⟨u, hu, rfl⟩ := List.mem_map.mp hz
    exact Nat.lt_of_le_of_lt (goodP_n ((h y hy).2.2 u hu)).2 (by decide)⟩

/-! ### rows spoilt -/
def oddA : List PyData := [.int (-1), .int 0, .int 1, .int 1000, .int 1001, .bool true, .bool false, .none, .str (Str.ofString ""), .str (Str.ofString "1"), .tuple [], .list [], .tuple [.int 0], .tuple [.int 1], .tuple [.int 0, .int 0], .tuple [.int 1, .int 2],
  .tuple [.tuple [.int 1]], .list [.int 1], .tuple [.none]]
def oddB : List PyData := [.tuple [.int 1, .bool true], .tuple [.int (-1001), .int 1], .int 2, .tuple [.int 1, .int 2, .int 3], .tuple [.tuple [.int 1, .int 0], .tuple [.int 0, .int 1]]]
def oddM (n : Int) : PyData := (oddA ++ oddB).getD (n % 24).toNat .none
def flatM (x : PyData) (nu : Int) : PyData :=
  if isT x = true ∧ 0 < (dItems x).length ∧ nu / 6 % 2 = 0 then
    ([.list (dItems x), .tuple (cutA (dItems x) none (some (-1))), .tuple (dItems x ++ cutA (dItems x) (some (-1)) none), .tuple (cutA (dItems x) (some 1) none), .tuple (dItems x).reverse,
      .tuple (List.replicate (3 : Int).toNat (dItems x)).flatten] : List PyData).getD (nu / 12 % 6).toNat .none
  else if isI x = true ∧ nu / 6 % 2 = 0 then
    ([.str (Str.ofString (toString (dNum x))), .int (-dNum x), .int (dNum x + 1), .bool (decide (dNum x = 1)), .int (dNum x + 1000), .int 0] : List PyData).getD (nu / 12 % 6).toNat .none
  else oddM (nu / 6)
def spoilM : Nat → PyData → Int → Int → PyData
  | 0, x, nu, _ => flatM x nu
  | m + 1, x, nu, deep =>
    if 0 < deep ∧ isT x = true ∧ 0 < (dItems x).length ∧ 0 < nu % 6 then
      .tuple (cutA (dItems x) none (some (nu / 6 % ((dItems x).length : Int))) ++ [spoilM m ((dItems x).getD (nu / 6 % ((dItems x).length : Int)).toNat .none) (nu / 30) (deep - 1)] ++ cutA (dItems x) (some (nu / 6 % ((dItems x).length : Int) + 1)) none)
    else flatM x nu
theorem spoil_yes {m : Nat} {x : PyData} {nu deep : Int} (h : 0 < deep ∧ isT x = true ∧ 0 < (dItems x).length ∧ 0 < nu % 6) : spoilM (m + 1) x nu deep =
    .tuple (cutA (dItems x) none (some (nu / 6 % ((dItems x).length : Int))) ++ [spoilM m ((dItems x).getD (nu / 6 % ((dItems x).length : Int)).toNat .none) (nu / 30) (deep - 1)] ++ cutA (dItems x) (some (nu / 6 % ((dItems x).length : Int) + 1)) none) := if_pos h
theorem spoil_no {m : Nat} {x : PyData} {nu deep : Int} (h : ¬ (0 < deep ∧ isT x = true ∧ 0 < (dItems x).length ∧ 0 < nu % 6)) : spoilM (m + 1) x nu deep = flatM x nu := if_neg h
theorem spoil_z {x : PyData} {nu deep : Int} (_ : ¬ (0 < deep ∧ isT x = true ∧ 0 < (dItems x).length ∧ 0 < nu % 6)) : spoilM 0 x nu deep = flatM x nu := rfl
theorem spoil_no0 {x : PyData} {nu deep : Int} (h : ¬ (0 < deep ∧ isT x = true ∧ 0 < (dItems x).length ∧ 0 < nu % 6)) : spoilM 1 x nu deep = flatM x nu := spoil_no h
theorem spoil_no1 {x : PyData} {nu deep : Int} (h : ¬ (0 < deep ∧ isT x = true ∧ 0 < (dItems x).length ∧ 0 < nu % 6)) : spoilM 2 x nu deep = flatM x nu := spoil_no h
/-- whole numbers, rows of them, .. -/
def Pl : Nat → PyData → Prop
  | 0, x => ∃ i, x = .int i ∧ i.natAbs < 2 ^ 40
  | n + 1, x => ∃ l, x = .tuple l ∧ l.length ≤ 5 ∧ ∀ y ∈ l, Pl n y
theorem Pl.wf : ∀ {n : Nat} {x : PyData}, Pl n x → Wf n x
  | 0, x, ⟨i, h, _⟩ => by subst h; exact wf_int i
  | n + 1, x, ⟨l, h, _, hl⟩ => by subst h; exact wf_tup fun y hy => Pl.wf (hl y hy)
theorem getD_all {P : PyData → Prop} {l : List PyData} {d : PyData} (k : Nat) (hd : P d) (h : ∀ y ∈ l, P y) : P (l.getD k d) := by
  by_cases hk : k < l.length
  · rw [List.getD_eq_getElem?_getD, List.getElem?_eq_getElem hk]
    exact h _ (List.getElem_mem hk)
  · rw [List.getD_eq_getElem?_getD, List.getElem?_eq_none (by omega)]
    exact hd
theorem mem_cut {α : Type} {l : List α} {lo hi : Option Int} {y : α} (h : y ∈ cutA l lo hi) : y ∈ l := List.mem_of_mem_drop (List.mem_of_mem_take h)
theorem odd_wf (n : Int) : Wf 3 (oddM n) := by
  refine getD_all (P := Wf 3) _ (wf_non.le (by decide)) ?_
  have : ∀ y ∈ oddA ++ oddB, y.canLay0 = true ∧ y.depth ≤ 3 := by
    unfold oddA oddB
    simp only [List.cons_append, List.nil_append, List.forall_mem_cons, PyData.canLay0, PyData.canLayAll0, PyData.depth, PyData.depthAll]
    decide +kernel
  exact fun y hy => ⟨(this y hy).1, (this y hy).2⟩
theorem flat_wf {n : Nat} {x : PyData} (h : Pl n x) (nu : Int) : Wf (6 + n) (flatM x nu) := by
  unfold flatM
  split
  · rename_i hc
    cases n with
    | zero => obtain ⟨i, rfl, _⟩ := h; cases hc.1
    | succ n =>
      obtain ⟨l, rfl, _, hl⟩ := h
      have w : ∀ y ∈ l, Wf n y := fun y hy => (hl y hy).wf
      have e : dItems (.tuple l) = l := rfl
      rw [e]
      refine (getD_all (P := Wf (n + 1)) _ (wf_non.le (by omega)) ?_).le (by omega)
      simp only [List.forall_mem_cons]
      refine ⟨wf_lst w, wf_tup fun y hy => w y (mem_cut hy), wf_tup fun y hy => ?_, wf_tup fun y hy => w y (mem_cut hy), wf_tup fun y hy => w y (List.mem_reverse.mp hy), wf_tup fun y hy => ?_, fun y hy => absurd hy (List.not_mem_nil)⟩
      · rcases List.mem_append.mp hy with q | q
        · exact w y q
        · exact w y (mem_cut q)
      · obtain ⟨s, h1, h2⟩ := List.mem_flatten.mp hy
        rw [List.eq_of_mem_replicate h1] at h2
        exact w y h2
  · split
    · refine (getD_all (P := Wf 0) _ wf_non ?_).le (by omega)
      simp only [List.forall_mem_cons]
      exact ⟨wf_str (strOk_int _), wf_int _, wf_int _, wf_bl _, wf_int _, wf_int _, fun y hy => absurd hy (List.not_mem_nil)⟩
    · exact (odd_wf _).le (by omega)
theorem spoil_wf : ∀ (m : Nat) {n : Nat} {x : PyData} (h : Pl n x) (nu deep : Int), Wf (6 + n) (spoilM m x nu deep)
  | 0, n, x, h, nu, deep => flat_wf h nu
  | m + 1, n, x, h, nu, deep => by
    unfold spoilM
    split
    · rename_i hc
      cases n with
      | zero => obtain ⟨i, rfl, _⟩ := h; cases hc.2.1
      | succ n =>
        obtain ⟨l, rfl, _, hl⟩ := h
        have w : ∀ y ∈ l, Wf (6 + n) y := fun y hy => (hl y hy).wf.le (by omega)
        have e : dItems (.tuple l) = l := rfl
        rw [e] at hc ⊢
        have hpos : (0 : Int) < (l.length : Int) := by have := hc.2.2.1; omega
        have h1 := Int.emod_nonneg (nu / 6) (show (l.length : Int) ≠ 0 by omega)
        have h2 := Int.emod_lt_of_pos (nu / 6) hpos
        refine wf_tup (n := 6 + n) fun y hy => ?_
        rcases List.mem_append.mp hy with q | q
        · rcases List.mem_append.mp q with q | q
          · exact w y (mem_cut q)
          · rw [List.mem_singleton.mp q]
            refine spoil_wf m (hl _ ?_) _ _
            have hk : (nu / 6 % (l.length : Int)).toNat < l.length := by omega
            rw [List.getD_eq_getElem?_getD, List.getElem?_eq_getElem hk]
            exact List.getElem_mem hk
        · exact w y (mem_cut q)
    · exact flat_wf h nu
/-- rows of whole numbers as data -/
def tabD (t : Tb) : PyData := .tuple (t.map fun r => .tuple (r.map .int))
theorem tab_pl {t : Tb} {n w : Nat} (h : Rs n w t) (hn : n ≤ 5) (hw : w ≤ 5) : Pl 2 (tabD t) :=
  ⟨_, rfl, by rw [List.length_map, h.len]; exact hn, fun y hy => by
    obtain ⟨r, hr, rfl⟩ := List.mem_map.mp hy
    exact ⟨_, rfl, by rw [List.length_map, h.wid r hr]; exact hw, fun z hz => by
      obtain ⟨i, hi, rfl⟩ := List.mem_map.mp hz
      exact ⟨i, rfl, Nat.lt_of_le_of_lt (h.bd r hr i hi) (by decide)⟩⟩⟩
theorem tab_wf (t : Tb) : Wf 2 (tabD t) := wf_tup fun y hy => by
  obtain ⟨r, hr, rfl⟩ := List.mem_map.mp hy
  exact wf_tup fun z hz => by
    obtain ⟨i, hi, rfl⟩ := List.mem_map.mp hz
    exact wf_int i
end Tr

namespace Tr
open PySem L2 Mi
def topS (i : Nat) : Stmt := PySem.Challenge.pw_trimrows_k01_rows.main.body.getD i (.Pass ⟨0, 0, 0, 0⟩)
section
variable {P : Program} {w : World} {K : PySem.W.Frag} {mg : Str → Option Value} {base : Heap}
/-- what is known of a script -/
def Scr (ns : List Int) : Prop := ns.length ≤ 63 ∧ ∀ z ∈ ns, Builtin.Int.intBits z ≤ 1048576
theorem cell_bits {ns : List Int} (h : ∀ z ∈ ns, Builtin.Int.intBits z ≤ 1048576) (k : Int) : (cell ns k).natAbs < 2 ^ 1048576 := by
  have key : ∀ n : Nat, (∀ z ∈ ns, Builtin.Int.intBits z ≤ n) → (cell ns k).natAbs < 2 ^ n := fun n h => by
    unfold cell
    split
    · by_cases hk : k.toNat < ns.length
      · rw [List.getD_eq_getElem?_getD, List.getElem?_eq_getElem hk]
        exact bits_lt (h _ (List.getElem_mem hk))
      · rw [List.getD_eq_getElem?_getD, List.getElem?_eq_none (by omega)]
        exact Nat.pow_pos (by decide)
    · exact Nat.pow_pos (by decide)
  exact key _ h
theorem bits_diff {x y : Int} (hx : x.natAbs < 2 ^ 1048576) (hy : y.natAbs < 2 ^ 1048576) : (x - y).natAbs < 2 ^ 1048580 := by
  have key : ∀ n : Nat, x.natAbs < 2 ^ n → y.natAbs < 2 ^ n → (x - y).natAbs < 2 ^ (n + 4) := fun n hx hy => by
    have e : 2 ^ (n + 4) = 16 * 2 ^ n := by rw [Nat.pow_add, Nat.mul_comm]
    generalize 2 ^ n = N at *
    omega
  exact key _ hx hy
theorem bits_diff2 {x y : Int} (hx : x.natAbs < 2 ^ 1048576) (hy : y.natAbs < 2 ^ 1048576) : (x - 2 * y).natAbs < 2 ^ 1048580 := by
  have key : ∀ n : Nat, x.natAbs < 2 ^ n → y.natAbs < 2 ^ n → (x - 2 * y).natAbs < 2 ^ (n + 4) := fun n hx hy => by
    have e : 2 ^ (n + 4) = 16 * 2 ^ n := by rw [Nat.pow_add, Nat.mul_comm]
    generalize 2 ^ n = N at *
    omega
  exact key _ hx hy
abbrev s__law_cell_at : Stmt := topS 9
theorem sc__law_cell_at : FnScope ["_law_script", "_law_k"] ["_law_script", "_law_k"] (defScope s__law_cell_at) := ⟨rfl, rfl, rfl, by decide +kernel, rfl, by decide +kernel, by decide +kernel⟩
abbrev sp__law_cell_at (K : PySem.W.Frag) : Sp := Pur2 (scrR K) intR intR (fun _ k => 0 ≤ k) cell
theorem ok__law_cell_at {f : Addr} {fd : FuncData} (F : Fun K "_law_cell_at" "_law_cell_at" s__law_cell_at f fd) (M : Bi mg)  :
    FnOk P w K mg base CX0 1 f fd ["_law_script", "_law_k"] (sp__law_cell_at K) := by
  refine pure_ok2 F sc__law_cell_at rfl fun cdv A outer s H0 B0 E' ns k hr hp => ?_
  refine S.ifr (T.cmpI .lt (E.var 1 rfl) (E.lenS (E.var 0 rfl) M.len)) (fun h => ?_) (fun h => ?_)
  · have hk : k < (ns.length : Int) := of_decide_eq_true h
    refine S.ret (E.eq (E.gS (E.var 0 rfl) (E.var 1 rfl) ?_) (by unfold cell; rw [if_pos hk])) (fun v B H o r => ⟨Ob.go _ o, r⟩)
    exact ⟨hp, by omega⟩
  · have hk : ¬ k < (ns.length : Int) := of_decide_eq_false h
    refine S.ret (E.eq E.int ?_) (fun v B H o r => ⟨Ob.go _ o, r⟩)
    unfold cell
    rw [if_neg hk]
abbrev s__law_mixed : Stmt := topS 10
theorem sc__law_mixed : FnScope ["_law_script", "_law_k", "_law_drawn_here"] ["_law_script", "_law_k"] (defScope s__law_mixed) := ⟨rfl, rfl, rfl, by decide +kernel, rfl, by decide +kernel, by decide +kernel⟩
abbrev sp__law_mixed (K : PySem.W.Frag) : Sp := Pur2 (scrR K) intR intR (fun _ k => 0 ≤ k) mixed
theorem ok__law_mixed {f : Addr} {fd : FuncData} (F : Fun K "_law_mixed" "_law_mixed" s__law_mixed f fd) (M : Bi mg) (D__law_cell_at : Df P w K mg base 1 "_law_cell_at" ["_law_script", "_law_k"] (sp__law_cell_at K)) :
    FnOk P w K mg base CX0 2 f fd ["_law_script", "_law_k"] (sp__law_mixed K) := by
  refine pure_ok2 F sc__law_mixed rfl fun cdv A outer s H0 B0 E' ns k hr hp => ?_
  refine S.set 2 (E.mod (E.mul (E.add (E.add (E.call2 D__law_cell_at (hr.mono (by decide)) (EA.two (E.var 0 rfl) (E.var 1 rfl)) ?_) (E.mul E.int (E.var 1 rfl) ?_)) E.int) E.int ?_) E.int ?_) sc__law_mixed.nd ?_
  · exact hp
  · exact mulL (by decide)
  · exact mulR (by decide)
  · decide
  have hz : ∀ z : Int, (z * 48271 % 2147483647).natAbs < 2 ^ 64 := fun z => by
    have h1 := Int.emod_nonneg (z * 48271) (show (2147483647 : Int) ≠ 0 by decide)
    have h2 := Int.emod_lt_of_pos (z * 48271) (show (0 : Int) < 2147483647 by decide)
    omega
  refine S.ret (E.eq (E.mod (E.add (E.add (E.mul (E.var 2 rfl) (E.var 2 rfl) ?_) (E.mul E.int (E.var 2 rfl) ?_)) (E.var 1 rfl)) E.int ?_) rfl) (fun v B H o r => ⟨Ob.go _ o, r⟩)
  · exact mulR (hz _)
  · exact mulR (hz _)
  · decide
abbrev s__law_drawn : Stmt := topS 11
theorem sc__law_drawn : FnScope ["_law_number", "_law_k", "_law_drawn_here"] ["_law_number", "_law_k"] (defScope s__law_drawn) := ⟨rfl, rfl, rfl, by decide +kernel, rfl, by decide +kernel, by decide +kernel⟩
abbrev sp__law_drawn (K : PySem.W.Frag) : Sp := Pur2 intR intR intR (fun _ _ => True) drawn
theorem ok__law_drawn {f : Addr} {fd : FuncData} (F : Fun K "_law_drawn" "_law_drawn" s__law_drawn f fd) (M : Bi mg)  :
    FnOk P w K mg base CX0 1 f fd ["_law_number", "_law_k"] (sp__law_drawn K) := by
  refine pure_ok2 F sc__law_drawn rfl fun cdv A outer s H0 B0 E' n k hr hp => ?_
  refine S.set 2 (E.mod (E.mul (E.add (E.add (E.var 0 rfl) (E.mul E.int (E.var 1 rfl) ?_)) E.int) E.int ?_) E.int ?_) sc__law_drawn.nd ?_
  · exact mulL (by decide)
  · exact mulR (by decide)
  · decide
  have hz : ∀ z : Int, (z * 69621 % 2147483647).natAbs < 2 ^ 64 := fun z => by
    have h1 := Int.emod_nonneg (z * 69621) (show (2147483647 : Int) ≠ 0 by decide)
    have h2 := Int.emod_lt_of_pos (z * 69621) (show (0 : Int) < 2147483647 by decide)
    omega
  refine S.ret (E.eq (E.mod (E.add (E.add (E.mul (E.var 2 rfl) (E.var 2 rfl) ?_) (E.mul E.int (E.var 2 rfl) ?_)) (E.var 1 rfl)) E.int ?_) rfl) (fun v B H o r => ⟨Ob.go _ o, r⟩)
  · exact mulR (hz _)
  · exact mulR (hz _)
  · decide
abbrev s__law_product : Stmt := topS 12
theorem sc__law_product : FnScope ["_law_one", "_law_other", "_law_left", "_law_right"] ["_law_one", "_law_other"] (defScope s__law_product) := ⟨rfl, rfl, rfl, by decide +kernel, rfl, by decide +kernel, by decide +kernel⟩
abbrev sp__law_product (K : PySem.W.Frag) : Sp := Pur2 (tupR intR) (tupR intR) intR (fun x y => x.length = y.length ∧ x.length ≤ 1000 ∧ ∀ p ∈ x.zip y, IntMulOk p.1 p.2) dotI
theorem ok__law_product {f : Addr} {fd : FuncData} (F : Fun K "_law_product" "_law_product" s__law_product f fd) (M : Bi mg)  :
    FnOk P w K mg base CX0 1 f fd ["_law_one", "_law_other"] (sp__law_product K) := by
  refine pure_ok2 F sc__law_product rfl fun cdv A outer s H0 B0 E' x y hr hp => ?_
  obtain ⟨h1, h2, h3⟩ := hp
  refine S.ret (E.eq (E.sum rfl (EL.cl (CL.el (CL.comp _ rfl sc__law_product.nd (IT.zipT (E.var 0 rfl) (E.var 1 rfl) ?_ M.zip) (fun _ _ _ => trivial) (blkOk_by (own := [("_law_left", 2), ("_law_right", 3)]) (N := ["_law_one", "_law_other", "_law_left", "_law_right"]) (sc := defScope s__law_product) (by decide +kernel)) (fun p => (Tg.pair 2 3 rfl sc__law_product.nd)) (by decide) ?_ (fun p x hx => (E.mul (E.var 2 rfl) (E.var 3 rfl) ?_))))) M.sum) rfl) (fun v B H o r => ⟨Ob.go _ o, r⟩)
  · exact h1
  · rw [zip_len h1]
    exact Nat.le_trans h2 (by decide)
  · exact h3 _ hx

abbrev s__law_volume : Stmt := topS 13
theorem sc__law_volume : FnScope ["_law_rows_here", "_law_table", "_law_one", "_law_other", "_law_last", "_law_at", "_law_lead", "_law_below", "_law_head", "_law_two"] ["_law_rows_here"] (defScope s__law_volume) := ⟨rfl, rfl, rfl, by decide +kernel, rfl, by decide +kernel, by decide +kernel⟩
abbrev sp__law_volumeL (K : PySem.W.Frag) : Sp := Pur1 (lstR (tupR intR)) intR (fun a => ∃ w, Rw a w) vol
theorem ok__law_volumeL {f : Addr} {fd : FuncData} (F : Fun K "_law_volume" "_law_volume" s__law_volume f fd) (M : Bi mg) (D__law_product : Df P w K mg base 1 "_law_product" ["_law_one", "_law_other"] (sp__law_product K)) :
    FnOk P w K mg base CX0 2 f fd ["_law_rows_here"] (sp__law_volumeL K) := by
  refine pure_ok1 F sc__law_volume rfl fun cdv A outer s H0 B0 E' a hr hp => ?_
  obtain ⟨wd, hw⟩ := hp
  refine S.setCM 1 (CL.eq (CL.comp _ rfl sc__law_volume.nd (IT.lstF (E.var 0 rfl)) (fun _ _ _ => trivial) (blkOk_by (own := [("_law_one", 2)]) (N := ["_law_rows_here", "_law_table", "_law_one", "_law_other", "_law_last", "_law_at", "_law_lead", "_law_below", "_law_head", "_law_two"]) (sc := defScope s__law_volume) (by decide +kernel)) (fun p => (Tg.name 2 sc__law_volume.nd)) (by decide) ?_ (fun p x hx => (EL.cl (CL.el (CL.comp _ rfl sc__law_volume.nd (IT.lstF (E.var 0 rfl)) (fun _ _ _ => trivial) (blkOk_by (own := [("_law_other", 3)]) (N := ["_law_rows_here", "_law_table", "_law_one", "_law_other", "_law_last", "_law_at", "_law_lead", "_law_below", "_law_head", "_law_two"]) (by rfl)) (fun p => (Tg.name 3 sc__law_volume.nd)) (by decide) ?_ (fun p1 x1 hx1 => (E.call2 D__law_product (hr.mono (by decide)) (EA.two (E.var 2 rfl) (E.var 3 rfl)) ?_))))))) (rfl : _ = gram a)) sc__law_volume.nd (fun p => ?_) (sw_true rfl rfl rfl (by decide +kernel))
  · exact Nat.le_trans hw.n4 (by decide)
  · exact Nat.le_trans hw.n4 (by decide)
  · refine ⟨(hw.wid _ hx).trans (hw.wid _ hx1).symm, by rw [hw.wid _ hx]; exact Nat.le_trans hw.w5 (by decide), fun q hq => ?_⟩
    have := List.of_mem_zip hq
    exact mulR (Nat.lt_trans (hw.bd _ hx1 _ this.2) (by decide))
  refine S.set 4 E.int sc__law_volume.nd ?_
  have hsq := gram_sq hw
  have hn4 := hw.n4
  refine S.for (ι := Tb × Int) (fun i t => Sq a.length (eb i) t.1 ∧ t.2 ≠ 0 ∧ t.2.natAbs < 2 ^ eb i ∧ volGo a.length (a.length - i) i t.1 t.2 = vol a) (fun t => mo B0 H0 p (lstR intR) t.1)
    (fun t => [some ⟨lstR (tupR intR), a⟩, some ⟨adrR, p⟩, none, none, some ⟨intR, t.2⟩, none, none, none, none, none]) rfl (IT.rng1 (E.lenL (E.lr (E.var 0 rfl)) M.len) ?_ ?_ M.range) (Tg.name 5 sc__law_volume.nd) (gram a, 1) ⟨hsq, show (1 : Int) ≠ 0 by decide, show (1 : Int).natAbs < 2 ^ eb 0 by decide, rfl⟩ (by repeat (first | exact trivial | refine ⟨by first | exact .inl rfl | exact .inr rfl, ?_⟩)) (fun _ _ h => h) (fun _ _ _ _ => trivial) (fun i x t hx ht => ?_) (fun t ht => ?_)
  · show (a.length : Int) < 2 ^ 62
    omega
  · show -(2 ^ 62) ≤ (a.length : Int)
    omega
  · obtain ⟨rfl, hi⟩ := rgI_get hx
    have hi' : i < a.length := by omega
    obtain ⟨t1, last⟩ := t
    obtain ⟨h1, h2, h3, h4⟩ := ht
    have hr1 := h1.row hi'
    have ha1 := h1.at hi' hi'
    have na : (0 + (i : Int)).toNat = i := by omega
    refine S.set 6 (E.eq (E.gL (0 : Int) (E.lr (E.gL [] (mo_lr 1 rfl) (E.var 5 rfl) ?_)) (E.var 5 rfl) ?_) (show _ = at2 t1 i i by rw [na]; rfl)) sc__law_volume.nd ?_
    · exact ⟨by omega, by rw [na, h1.len]; exact hi'⟩
    · rw [na]
      exact ⟨by omega, by rw [hr1.2.1]; exact hi'⟩
    refine S.ifr (T.cmpI .eq (E.var 6 rfl) E.int) (fun hz => ?_) (fun hz => ?_)
    · have hz' : at2 t1 i i = 0 := of_decide_eq_true hz
      refine S.ret (E.eq E.int ?_) (fun v B H o r => ⟨Ob.go _ o, r⟩)
      rw [← h4, show a.length - i = (a.length - i - 1) + 1 by omega]
      unfold volGo
      rw [if_pos hz']
    have hz' : at2 t1 i i ≠ 0 := of_decide_eq_false hz
    have hIn := elimA_ok h1 h2 hi'
    refine S.for (ι := Tb) (fun k u => u = elimA a.length last i t1 k) (fun u => mo B0 H0 p (lstR intR) u)
      (fun u => [some ⟨lstR (tupR intR), a⟩, some ⟨adrR, p⟩, none, none, some ⟨intR, last⟩, some ⟨intR, 0 + (i : Int)⟩, some ⟨intR, at2 t1 i i⟩, none, none, none]) rfl (IT.rng2 (E.add (E.var 5 rfl) E.int) (E.lenL (E.lr (E.var 0 rfl)) M.len) ?_ M.range) (Tg.name 7 sc__law_volume.nd) t1 rfl (by repeat (first | exact trivial | refine ⟨by first | exact .inl rfl | exact .inr rfl, ?_⟩)) (fun _ _ h => h) (fun _ _ _ _ => trivial) (fun k y u hy hu => ?_) (fun u hu => ?_)
    · show -(2 ^ 62) ≤ (0 + (i : Int)) + 1 ∧ (0 + (i : Int)) + 1 < 2 ^ 62 ∧ -(2 ^ 62) ≤ (a.length : Int) ∧ (a.length : Int) < 2 ^ 62
      omega
    · obtain ⟨rfl, hk⟩ := rgI_get hy
      subst hu
      have hk3 : i + 1 + k < a.length := by omega
      obtain ⟨g1, g2⟩ := hIn k (by omega)
      have e1 := g2 i (.inl (Nat.le_refl _))
      have e2 := g2 (i + 1 + k) (.inr (Nat.le_refl _))
      have ra := g1.row hi'
      have rb := g1.row hk3
      have nb : (0 + (i : Int) + 1 + (k : Int)).toNat = i + 1 + k := by omega
      have ep : at2 (elimA a.length last i t1 k) i i = at2 t1 i i := by unfold at2; rw [e1]
      refine S.set 8 (E.eq (E.gL (0 : Int) (E.lr (E.gL [] (mo_lr 1 rfl) (E.var 7 rfl) ?_)) (E.var 5 rfl) ?_) (show _ = at2 (elimA a.length last i t1 k) (i + 1 + k) i by rw [na, nb]; rfl)) sc__law_volume.nd ?_
      · exact ⟨by omega, by rw [nb, g1.len]; exact hk3⟩
      · rw [na, nb]
        exact ⟨by omega, by rw [rb.2.1]; exact hi'⟩
      refine S.sto 1 (m := i + 1 + k) rfl (E.eq (EL.cl (CL.el (CL.comp _ rfl sc__law_volume.nd (IT.zipL (E.gL [] (mo_lr 1 rfl) (E.var 7 rfl) ?_) (E.gL [] (mo_lr 1 rfl) (E.var 5 rfl) ?_) ?_ M.zip) (fun _ _ _ => trivial) (blkOk_by (own := [("_law_one", 2), ("_law_two", 9)]) (N := ["_law_rows_here", "_law_table", "_law_one", "_law_other", "_law_last", "_law_at", "_law_lead", "_law_below", "_law_head", "_law_two"]) (sc := defScope s__law_volume) (by decide +kernel)) (fun p => (Tg.pair 2 9 rfl sc__law_volume.nd)) (by decide) ?_ (fun p x hx => (E.fdivA (E.sub (E.mul (E.var 6 rfl) (E.var 2 rfl) ?_) (E.mul (E.var 8 rfl) (E.var 9 rfl) ?_)) (E.var 4 rfl) ?_))))) rfl) (E.var 7 rfl) (ix_i (by omega) (by rw [g1.len]; exact hk3)) ?_
      · exact ⟨by omega, by rw [nb, g1.len]; exact hk3⟩
      · exact ⟨by omega, by rw [na, g1.len]; exact hi'⟩
      · rw [na, nb, ra.2.1, rb.2.1]
      · rw [na, nb, zip_len (rb.2.1.trans ra.2.1.symm), rb.2.1]
        exact Nat.le_trans hn4 (by decide)
      · have hm := (List.of_mem_zip hx).1
        rw [nb, e2] at hm
        exact mulB (eb i) (eb i) (h1.at hi' hi').2 ((h1.row hk3).2.2 _ hm) (by have := eb_le (a := i) (by omega); omega)
      · have hm := (List.of_mem_zip hx).2
        rw [na, e1] at hm
        have e3 : at2 (elimA a.length last i t1 k) (i + 1 + k) i = at2 t1 (i + 1 + k) i := by unfold at2; rw [e2]
        rw [e3]
        exact mulB (eb i) (eb i) (h1.at hk3 hi').2 ((h1.row hi').2.2 _ hm) (by have := eb_le (a := i) (by omega); omega)
      · exact divB (eb i) h2 h3 (by have := eb_le (a := i) (by omega); omega)
      refine S.end' (ι := Tb) (elimA a.length last i t1 (k + 1)) rfl (by repeat (first | exact trivial | refine ⟨by first | exact .inl rfl | exact .inr rfl, ?_⟩)) ?_
      rw [elimA_succ]
      unfold elimB
      rw [ep, na, nb]
      exact fun _ _ h => h
    subst hu
    rw [rgI_len, show ((a.length : Int) - (0 + (i : Int) + 1)).toNat = a.length - (i + 1) by omega]
    obtain ⟨g1, g2⟩ := hIn (a.length - (i + 1)) (by omega)
    refine S.set 4 (E.var 6 rfl) sc__law_volume.nd ?_
    refine S.end' (ι := Tb × Int) (elimA a.length last i t1 (a.length - (i + 1)), at2 t1 i i) ⟨eb_succ i ▸ g1, hz', Nat.lt_of_lt_of_le ha1.2 (Nat.pow_le_pow_right (by decide) (by have := eb_succ i; omega)), ?_⟩ (by repeat (first | exact trivial | refine ⟨by first | exact .inl rfl | exact .inr rfl, ?_⟩)) (fun _ _ h => h)
    rw [← h4, show a.length - i = (a.length - (i + 1)) + 1 by omega]
    conv => rhs; unfold volGo
    rw [if_neg hz']
  · rw [rgI_len] at ht
    have hn : ((a.length : Int)).toNat = a.length := by omega
    rw [hn] at ht
    obtain ⟨_, _, _, h4⟩ := ht
    refine S.ret (E.eq (E.var 4 rfl) ?_) (fun v B H o r => ⟨Ob.go _ o, r⟩)
    rw [← h4, Nat.sub_self]
    rfl

abbrev sp__law_volumeT (K : PySem.W.Frag) : Sp := Pur1 (tupR (tupR intR)) intR (fun a => ∃ w, Rw a w) vol
theorem ok__law_volumeT {f : Addr} {fd : FuncData} (F : Fun K "_law_volume" "_law_volume" s__law_volume f fd) (M : Bi mg) (D__law_product : Df P w K mg base 1 "_law_product" ["_law_one", "_law_other"] (sp__law_product K)) :
    FnOk P w K mg base CX0 2 f fd ["_law_rows_here"] (sp__law_volumeT K) := by
  refine pure_ok1 F sc__law_volume rfl fun cdv A outer s H0 B0 E' a hr hp => ?_
  obtain ⟨wd, hw⟩ := hp
  refine S.setCM 1 (CL.eq (CL.comp _ rfl sc__law_volume.nd (IT.tup (E.var 0 rfl)) (fun _ _ _ => trivial) (blkOk_by (own := [("_law_one", 2)]) (N := ["_law_rows_here", "_law_table", "_law_one", "_law_other", "_law_last", "_law_at", "_law_lead", "_law_below", "_law_head", "_law_two"]) (sc := defScope s__law_volume) (by decide +kernel)) (fun p => (Tg.name 2 sc__law_volume.nd)) (by decide) ?_ (fun p x hx => (EL.cl (CL.el (CL.comp _ rfl sc__law_volume.nd (IT.tup (E.var 0 rfl)) (fun _ _ _ => trivial) (blkOk_by (own := [("_law_other", 3)]) (N := ["_law_rows_here", "_law_table", "_law_one", "_law_other", "_law_last", "_law_at", "_law_lead", "_law_below", "_law_head", "_law_two"]) (by rfl)) (fun p => (Tg.name 3 sc__law_volume.nd)) (by decide) ?_ (fun p1 x1 hx1 => (E.call2 D__law_product (hr.mono (by decide)) (EA.two (E.var 2 rfl) (E.var 3 rfl)) ?_))))))) (rfl : _ = gram a)) sc__law_volume.nd (fun p => ?_) (sw_true rfl rfl rfl (by decide +kernel))
  · exact Nat.le_trans hw.n4 (by decide)
  · exact Nat.le_trans hw.n4 (by decide)
  · refine ⟨(hw.wid _ hx).trans (hw.wid _ hx1).symm, by rw [hw.wid _ hx]; exact Nat.le_trans hw.w5 (by decide), fun q hq => ?_⟩
    have := List.of_mem_zip hq
    exact mulR (Nat.lt_trans (hw.bd _ hx1 _ this.2) (by decide))
  refine S.set 4 E.int sc__law_volume.nd ?_
  have hsq := gram_sq hw
  have hn4 := hw.n4
  refine S.for (ι := Tb × Int) (fun i t => Sq a.length (eb i) t.1 ∧ t.2 ≠ 0 ∧ t.2.natAbs < 2 ^ eb i ∧ volGo a.length (a.length - i) i t.1 t.2 = vol a) (fun t => mo B0 H0 p (lstR intR) t.1)
    (fun t => [some ⟨tupR (tupR intR), a⟩, some ⟨adrR, p⟩, none, none, some ⟨intR, t.2⟩, none, none, none, none, none]) rfl (IT.rng1 (E.lenT (E.var 0 rfl) M.len) ?_ ?_ M.range) (Tg.name 5 sc__law_volume.nd) (gram a, 1) ⟨hsq, show (1 : Int) ≠ 0 by decide, show (1 : Int).natAbs < 2 ^ eb 0 by decide, rfl⟩ (by repeat (first | exact trivial | refine ⟨by first | exact .inl rfl | exact .inr rfl, ?_⟩)) (fun _ _ h => h) (fun _ _ _ _ => trivial) (fun i x t hx ht => ?_) (fun t ht => ?_)
  · show (a.length : Int) < 2 ^ 62
    omega
  · show -(2 ^ 62) ≤ (a.length : Int)
    omega
  · obtain ⟨rfl, hi⟩ := rgI_get hx
    have hi' : i < a.length := by omega
    obtain ⟨t1, last⟩ := t
    obtain ⟨h1, h2, h3, h4⟩ := ht
    have hr1 := h1.row hi'
    have ha1 := h1.at hi' hi'
    have na : (0 + (i : Int)).toNat = i := by omega
    refine S.set 6 (E.eq (E.gL (0 : Int) (E.lr (E.gL [] (mo_lr 1 rfl) (E.var 5 rfl) ?_)) (E.var 5 rfl) ?_) (show _ = at2 t1 i i by rw [na]; rfl)) sc__law_volume.nd ?_
    · exact ⟨by omega, by rw [na, h1.len]; exact hi'⟩
    · rw [na]
      exact ⟨by omega, by rw [hr1.2.1]; exact hi'⟩
    refine S.ifr (T.cmpI .eq (E.var 6 rfl) E.int) (fun hz => ?_) (fun hz => ?_)
    · have hz' : at2 t1 i i = 0 := of_decide_eq_true hz
      refine S.ret (E.eq E.int ?_) (fun v B H o r => ⟨Ob.go _ o, r⟩)
      rw [← h4, show a.length - i = (a.length - i - 1) + 1 by omega]
      unfold volGo
      rw [if_pos hz']
    have hz' : at2 t1 i i ≠ 0 := of_decide_eq_false hz
    have hIn := elimA_ok h1 h2 hi'
    refine S.for (ι := Tb) (fun k u => u = elimA a.length last i t1 k) (fun u => mo B0 H0 p (lstR intR) u)
      (fun u => [some ⟨tupR (tupR intR), a⟩, some ⟨adrR, p⟩, none, none, some ⟨intR, last⟩, some ⟨intR, 0 + (i : Int)⟩, some ⟨intR, at2 t1 i i⟩, none, none, none]) rfl (IT.rng2 (E.add (E.var 5 rfl) E.int) (E.lenT (E.var 0 rfl) M.len) ?_ M.range) (Tg.name 7 sc__law_volume.nd) t1 rfl (by repeat (first | exact trivial | refine ⟨by first | exact .inl rfl | exact .inr rfl, ?_⟩)) (fun _ _ h => h) (fun _ _ _ _ => trivial) (fun k y u hy hu => ?_) (fun u hu => ?_)
    · show -(2 ^ 62) ≤ (0 + (i : Int)) + 1 ∧ (0 + (i : Int)) + 1 < 2 ^ 62 ∧ -(2 ^ 62) ≤ (a.length : Int) ∧ (a.length : Int) < 2 ^ 62
      omega
    · obtain ⟨rfl, hk⟩ := rgI_get hy
      subst hu
      have hk3 : i + 1 + k < a.length := by omega
      obtain ⟨g1, g2⟩ := hIn k (by omega)
      have e1 := g2 i (.inl (Nat.le_refl _))
      have e2 := g2 (i + 1 + k) (.inr (Nat.le_refl _))
      have ra := g1.row hi'
      have rb := g1.row hk3
      have nb : (0 + (i : Int) + 1 + (k : Int)).toNat = i + 1 + k := by omega
      have ep : at2 (elimA a.length last i t1 k) i i = at2 t1 i i := by unfold at2; rw [e1]
      refine S.set 8 (E.eq (E.gL (0 : Int) (E.lr (E.gL [] (mo_lr 1 rfl) (E.var 7 rfl) ?_)) (E.var 5 rfl) ?_) (show _ = at2 (elimA a.length last i t1 k) (i + 1 + k) i by rw [na, nb]; rfl)) sc__law_volume.nd ?_
      · exact ⟨by omega, by rw [nb, g1.len]; exact hk3⟩
      · rw [na, nb]
        exact ⟨by omega, by rw [rb.2.1]; exact hi'⟩
      refine S.sto 1 (m := i + 1 + k) rfl (E.eq (EL.cl (CL.el (CL.comp _ rfl sc__law_volume.nd (IT.zipL (E.gL [] (mo_lr 1 rfl) (E.var 7 rfl) ?_) (E.gL [] (mo_lr 1 rfl) (E.var 5 rfl) ?_) ?_ M.zip) (fun _ _ _ => trivial) (blkOk_by (own := [("_law_one", 2), ("_law_two", 9)]) (N := ["_law_rows_here", "_law_table", "_law_one", "_law_other", "_law_last", "_law_at", "_law_lead", "_law_below", "_law_head", "_law_two"]) (sc := defScope s__law_volume) (by decide +kernel)) (fun p => (Tg.pair 2 9 rfl sc__law_volume.nd)) (by decide) ?_ (fun p x hx => (E.fdivA (E.sub (E.mul (E.var 6 rfl) (E.var 2 rfl) ?_) (E.mul (E.var 8 rfl) (E.var 9 rfl) ?_)) (E.var 4 rfl) ?_))))) rfl) (E.var 7 rfl) (ix_i (by omega) (by rw [g1.len]; exact hk3)) ?_
      · exact ⟨by omega, by rw [nb, g1.len]; exact hk3⟩
      · exact ⟨by omega, by rw [na, g1.len]; exact hi'⟩
      · rw [na, nb, ra.2.1, rb.2.1]
      · rw [na, nb, zip_len (rb.2.1.trans ra.2.1.symm), rb.2.1]
        exact Nat.le_trans hn4 (by decide)
      · have hm := (List.of_mem_zip hx).1
        rw [nb, e2] at hm
        exact mulB (eb i) (eb i) (h1.at hi' hi').2 ((h1.row hk3).2.2 _ hm) (by have := eb_le (a := i) (by omega); omega)
      · have hm := (List.of_mem_zip hx).2
        rw [na, e1] at hm
        have e3 : at2 (elimA a.length last i t1 k) (i + 1 + k) i = at2 t1 (i + 1 + k) i := by unfold at2; rw [e2]
        rw [e3]
        exact mulB (eb i) (eb i) (h1.at hk3 hi').2 ((h1.row hi').2.2 _ hm) (by have := eb_le (a := i) (by omega); omega)
      · exact divB (eb i) h2 h3 (by have := eb_le (a := i) (by omega); omega)
      refine S.end' (ι := Tb) (elimA a.length last i t1 (k + 1)) rfl (by repeat (first | exact trivial | refine ⟨by first | exact .inl rfl | exact .inr rfl, ?_⟩)) ?_
      rw [elimA_succ]
      unfold elimB
      rw [ep, na, nb]
      exact fun _ _ h => h
    subst hu
    rw [rgI_len, show ((a.length : Int) - (0 + (i : Int) + 1)).toNat = a.length - (i + 1) by omega]
    obtain ⟨g1, g2⟩ := hIn (a.length - (i + 1)) (by omega)
    refine S.set 4 (E.var 6 rfl) sc__law_volume.nd ?_
    refine S.end' (ι := Tb × Int) (elimA a.length last i t1 (a.length - (i + 1)), at2 t1 i i) ⟨eb_succ i ▸ g1, hz', Nat.lt_of_lt_of_le ha1.2 (Nat.pow_le_pow_right (by decide) (by have := eb_succ i; omega)), ?_⟩ (by repeat (first | exact trivial | refine ⟨by first | exact .inl rfl | exact .inr rfl, ?_⟩)) (fun _ _ h => h)
    rw [← h4, show a.length - i = (a.length - (i + 1)) + 1 by omega]
    conv => rhs; unfold volGo
    rw [if_neg hz']
  · rw [rgI_len] at ht
    have hn : ((a.length : Int)).toNat = a.length := by omega
    rw [hn] at ht
    obtain ⟨_, _, _, h4⟩ := ht
    refine S.ret (E.eq (E.var 4 rfl) ?_) (fun v B H o r => ⟨Ob.go _ o, r⟩)
    rw [← h4, Nat.sub_self]
    rfl

abbrev s__law_row : Stmt := topS 14
theorem sc__law_row : FnScope ["_law_number", "_law_wide", "_law_high", "_law_at"] ["_law_number", "_law_wide", "_law_high"] (defScope s__law_row) := ⟨rfl, rfl, rfl, by decide +kernel, rfl, by decide +kernel, by decide +kernel⟩
abbrev sp__law_row (K : PySem.W.Frag) : Sp := Pur3 intR intR intR (lstR intR) (fun _ wd hi => 0 ≤ wd ∧ wd ≤ 1000 ∧ 0 ≤ hi ∧ hi < 2 ^ 40) rowM
theorem ok__law_row {f : Addr} {fd : FuncData} (F : Fun K "_law_row" "_law_row" s__law_row f fd) (M : Bi mg) (D__law_drawn : Df P w K mg base 1 "_law_drawn" ["_law_number", "_law_k"] (sp__law_drawn K)) :
    FnOk P w K mg base CX0 2 f fd ["_law_number", "_law_wide", "_law_high"] (sp__law_row K) := by
  refine pure_ok3 F sc__law_row rfl fun cdv A outer s H0 B0 E' n wd hi hr hp => ?_
  obtain ⟨h1, h2, h3, h4⟩ := hp
  refine S.ret (E.eq (EL.cl (CL.el (CL.comp _ rfl sc__law_row.nd (IT.rng1 (E.var 1 rfl) ?_ ?_ M.range) (fun _ _ _ => trivial) (blkOk_by (own := [("_law_at", 3)]) (N := ["_law_number", "_law_wide", "_law_high", "_law_at"]) (sc := defScope s__law_row) (by decide +kernel)) (fun p => (Tg.name 3 sc__law_row.nd)) (by decide) ?_ (fun p x hx => (E.sub (E.mod (E.fdiv (E.call2 D__law_drawn (hr.mono (by decide)) (EA.two (E.var 0 rfl) (E.var 3 rfl)) ?_) E.int ?_) (E.add (E.mul E.int (E.var 2 rfl) ?_) E.int) ?_) (E.var 2 rfl)))))) rfl) (fun v B H o r => ⟨Ob.go _ o, r⟩)
  · show wd < 2 ^ 62
    omega
  · show -(2 ^ 62) ≤ wd
    omega
  · rw [rgI_len]
    show wd.toNat ≤ 10000
    omega
  · trivial
  · exact divP (by decide) (by decide)
  · exact mulL (by decide)
  · show 0 < 2 * hi + 1
    omega
abbrev s__law_skewed : Stmt := topS 15
theorem sc__law_skewed : FnScope ["_law_rows_here", "_law_number", "_law_found", "_law_k", "_law_drawn_here", "_law_one", "_law_other", "_law_often", "_law_row_here", "_law_left", "_law_right", "_law_part"] ["_law_rows_here", "_law_number"] (defScope s__law_skewed) := ⟨rfl, rfl, rfl, by decide +kernel, rfl, by decide +kernel, by decide +kernel⟩
abbrev sp__law_skewedL (K : PySem.W.Frag) : Sp := Pur2 (lstR (tupR intR)) intR (tupR (tupR intR)) (fun rows nu => 0 ≤ nu ∧ ∃ n w, 0 < n ∧ n ≤ 4 ∧ 0 < w ∧ w ≤ 5 ∧ Rs n w rows) skewed
theorem ok__law_skewedL {f : Addr} {fd : FuncData} (F : Fun K "_law_skewed" "_law_skewed" s__law_skewed f fd) (M : Bi mg) (D__law_drawn : Df P w K mg base 1 "_law_drawn" ["_law_number", "_law_k"] (sp__law_drawn K)) :
    FnOk P w K mg base CX0 2 f fd ["_law_rows_here", "_law_number"] (sp__law_skewedL K) := by
  refine pure_ok2 F sc__law_skewed rfl fun cdv A outer s H0 B0 E' rows nu hr hp => ?_
  obtain ⟨hnu, n, wd, hn0, hn4, hw0, hw5, hrs⟩ := hp
  have hlen := hrs.len
  refine S.setM 2 (EL.lstL (E.lr (E.var 0 rfl)) M.list) sc__law_skewed.nd (fun p => ?_)
  have hm5 := Int.emod_lt_of_pos nu (show (0 : Int) < 5 by decide)
  have hm0 := Int.emod_nonneg nu (show (5 : Int) ≠ 0 by decide)
  refine S.for (ι := Tb) (fun i t => t = ((rgI 0 (nu % 5).toNat).take i).foldl (skew1 rows nu) rows ∧ Rs n wd t) (fun t => mo B0 H0 p (tupR intR) t)
    (fun t => [some ⟨lstR (tupR intR), rows⟩, some ⟨intR, nu⟩, some ⟨adrR, p⟩, none, none, none, none, none, none, none, none, none]) rfl (IT.rng1 (E.mod (E.var 1 rfl) E.int ?_) ?_ ?_ M.range) (Tg.name 3 sc__law_skewed.nd) rows ⟨rfl, hrs⟩ (by repeat (first | exact trivial | refine ⟨by first | exact .inl rfl | exact .inr rfl, ?_⟩)) (fun _ _ h => h) (fun _ _ _ _ => trivial) (fun i x t hx ht => ?_) (fun t ht => ?_)
  · decide
  · show nu % 5 < 2 ^ 62
    omega
  · show -(2 ^ 62) ≤ nu % 5
    omega
  · obtain ⟨ht, hrt⟩ := ht
    have hd := drawn_nn nu (60 + x)
    have hl0 : (0 : Int) < (rows.length : Int) := by omega
    have ho1 := Int.emod_lt_of_pos (drawn nu (60 + x)) hl0
    have ho0 := Int.emod_nonneg (drawn nu (60 + x)) (show (rows.length : Int) ≠ 0 by omega)
    have hq1 := Int.emod_lt_of_pos (drawn nu (60 + x) / 4) hl0
    have hq0 := Int.emod_nonneg (drawn nu (60 + x) / 4) (show (rows.length : Int) ≠ 0 by omega)
    have hf0 := Int.emod_nonneg (drawn nu (60 + x) / 16) (show (7 : Int) ≠ 0 by decide)
    have hf1 := Int.emod_lt_of_pos (drawn nu (60 + x) / 16) (show (0 : Int) < 7 by decide)
    have hoft : (drawn nu (60 + x) / 16 % 7 - 3).natAbs < 2 ^ 64 := by
      clear hd ho1 ho0 hq1 hq0 hx ht hrt
      generalize drawn nu (60 + x) / 16 % 7 = z at *
      omega
    have enext : ((rgI 0 (nu % 5).toNat).take (i + 1)).foldl (skew1 rows nu) rows = skew1 rows nu t x := by
      rw [List.take_add_one, hx, List.foldl_append, ← ht]
      rfl
    refine S.set 4 (E.call2 D__law_drawn (hr.mono (by decide)) (EA.two (E.var 1 rfl) (E.add E.int (E.var 3 rfl))) ?_) sc__law_skewed.nd ?_
    · trivial
    refine S.set 5 (E.mod (E.var 4 rfl) (E.lenL (E.lr (E.var 0 rfl)) M.len) ?_) sc__law_skewed.nd ?_
    · exact hl0
    refine S.set 6 (E.mod (E.fdiv (E.var 4 rfl) E.int ?_) (E.lenL (E.lr (E.var 0 rfl)) M.len) ?_) sc__law_skewed.nd ?_
    · exact divP (by decide) (by decide)
    · exact hl0
    refine S.set 7 (E.sub (E.mod (E.fdiv (E.var 4 rfl) E.int ?_) E.int ?_) E.int) sc__law_skewed.nd ?_
    · exact divP (by decide) (by decide)
    · decide
    have h1 : (drawn nu (60 + x) % (rows.length : Int)).toNat < n := by omega
    have h2 : (drawn nu (60 + x) / 4 % (rows.length : Int)).toNat < n := by omega
    have r1 := hrt.row h1
    have r2 := hrt.row h2
    refine S.ifn (ι := Tb) (fun u => u = skew1 rows nu t x) (fun t => mo B0 H0 p (tupR intR) t)
      (fun t => [some ⟨lstR (tupR intR), rows⟩, some ⟨intR, nu⟩, some ⟨adrR, p⟩, none, none, none, none, none, none, none, none, none]) (T.cmpI .ne (E.var 5 rfl) (E.var 6 rfl)) (fun hne => ?_) (fun heq => ?_) (fun u hu => ?_)
    · have hne' : ¬ drawn nu (60 + x) % (rows.length : Int) = drawn nu (60 + x) / 4 % (rows.length : Int) := by simpa using hne
      refine S.setC 8 (CL.comp _ rfl sc__law_skewed.nd (IT.zipT (E.gL [] (mo_lr 2 rfl) (E.var 5 rfl) ?_) (E.gL [] (mo_lr 2 rfl) (E.var 6 rfl) ?_) ?_ M.zip) (fun _ _ _ => trivial) (blkOk_by (own := [("_law_left", 9), ("_law_right", 10)]) (N := ["_law_rows_here", "_law_number", "_law_found", "_law_k", "_law_drawn_here", "_law_one", "_law_other", "_law_often", "_law_row_here", "_law_left", "_law_right", "_law_part"]) (sc := defScope s__law_skewed) (by decide +kernel)) (fun p => (Tg.pair 9 10 rfl sc__law_skewed.nd)) (by decide) ?_ (fun p x hx => (E.add (E.var 9 rfl) (E.mul (E.var 7 rfl) (E.var 10 rfl) ?_)))) sc__law_skewed.nd ?_ (sw_true rfl rfl rfl (by decide +kernel))
      · exact ⟨ho0, by rw [hrt.len]; exact h1⟩
      · exact ⟨hq0, by rw [hrt.len]; exact h2⟩
      · rw [r1.1, r2.1]
      · rw [zip_len (r1.1.trans r2.1.symm), r1.1]
        exact Nat.le_trans hw5 (by decide)
      · exact mulL hoft
      refine S.ifn (ι := Tb) (fun u => u = skew1 rows nu t x) (fun t => mo B0 H0 p (tupR intR) t)
        (fun t => [some ⟨lstR (tupR intR), rows⟩, some ⟨intR, nu⟩, some ⟨adrR, p⟩, none, none, none, none, none, none, none, none, none]) (T.cmpI .le (E.maxL rfl (EL.cl (CL.el (CL.comp _ rfl sc__law_skewed.nd (IT.lstF (E.var 8 rfl)) (fun _ _ _ => trivial) (blkOk_by (own := [("_law_part", 11)]) (N := ["_law_rows_here", "_law_number", "_law_found", "_law_k", "_law_drawn_here", "_law_one", "_law_other", "_law_often", "_law_row_here", "_law_left", "_law_right", "_law_part"]) (sc := defScope s__law_skewed) (by decide +kernel)) (fun p => (Tg.name 11 sc__law_skewed.nd)) (by decide) ?_ (fun p x hx => (E.abs (E.var 11 rfl) M.abs))))) ?_ M.max) E.int) (fun hle => ?_) (fun hgt => ?_) (fun u hu => ?_)
      · rw [List.length_map, zip_len (r1.1.trans r2.1.symm), r1.1]
        exact Nat.le_trans hw5 (by decide)
      · intro hz
        have hz := congrArg List.length hz
        rw [List.length_map, List.length_map, zip_len (r1.1.trans r2.1.symm), r1.1] at hz
        simp at hz
        omega
      · have hle' := of_decide_eq_true hle
        refine S.sto 2 (m := (drawn nu (60 + x) % (rows.length : Int)).toNat) rfl (E.tupL (E.var 8 rfl) M.tuple) (E.var 5 rfl) (ix_i (by omega) (by rw [hrt.len]; exact h1)) ?_
        refine S.end' (ι := Tb) _ ?_ (by repeat (first | exact trivial | refine ⟨by first | exact .inl rfl | exact .inr rfl, ?_⟩)) (fun _ _ h => h)
        unfold skew1
        simp only
        rw [if_pos hne', if_pos hle']
      · have hgt' := of_decide_eq_false hgt
        refine ⟨t, ?_, (by repeat (first | exact trivial | refine ⟨by first | exact .inl rfl | exact .inr rfl, ?_⟩)), fun _ _ h => h⟩
        unfold skew1
        simp only
        rw [if_pos hne', if_neg hgt']
      · exact S.end' (ι := Tb) u hu (by repeat (first | exact trivial | refine ⟨by first | exact .inl rfl | exact .inr rfl, ?_⟩)) (fun _ _ h => h)
    · have heq' : drawn nu (60 + x) % (rows.length : Int) = drawn nu (60 + x) / 4 % (rows.length : Int) := by simpa using heq
      refine ⟨t, ?_, (by repeat (first | exact trivial | refine ⟨by first | exact .inl rfl | exact .inr rfl, ?_⟩)), fun _ _ h => h⟩
      unfold skew1
      simp only
      rw [if_neg (fun z => z heq')]
    · refine S.end' (ι := Tb) u ⟨by rw [enext]; exact hu, ?_⟩ (by repeat (first | exact trivial | refine ⟨by first | exact .inl rfl | exact .inr rfl, ?_⟩)) (fun _ _ h => h)
      rw [hu]
      exact skew1_rs hlen hn0 hrt
  · obtain ⟨ht, hrt⟩ := ht
    refine S.ret (E.eq (E.tupLR (mo_lr 2 rfl) M.tuple) ?_) (fun v B H o r => ⟨Ob.go _ o, r⟩)
    rw [ht, List.take_length]
    rfl

abbrev s__law_rows : Stmt := topS 16
theorem sc__law_rows : FnScope ["_law_number", "_law_most", "_law_many", "_law_wide", "_law_high", "_law_rows_here", "_law_k", "_law_drawn_here", "_law_row_here"] ["_law_number", "_law_most"] (defScope s__law_rows) := ⟨rfl, rfl, rfl, by decide +kernel, rfl, by decide +kernel, by decide +kernel⟩
abbrev sp__law_rows (K : PySem.W.Frag) : Sp := Pur2 intR intR (tupR (tupR intR)) (fun n m => 0 ≤ n ∧ 1 ≤ m ∧ m ≤ 4) rowsM
theorem ok__law_rows {f : Addr} {fd : FuncData} (F : Fun K "_law_rows" "_law_rows" s__law_rows f fd) (M : Bi mg) (D__law_drawn : Df P w K mg base 1 "_law_drawn" ["_law_number", "_law_k"] (sp__law_drawn K)) (D__law_row : Df P w K mg base 2 "_law_row" ["_law_number", "_law_wide", "_law_high"] (sp__law_row K)) (D__law_volumeL : Df P w K mg base 2 "_law_volume" ["_law_rows_here"] (sp__law_volumeL K)) (D__law_skewedL : Df P w K mg base 2 "_law_skewed" ["_law_rows_here", "_law_number"] (sp__law_skewedL K)) :
    FnOk P w K mg base CX0 3 f fd ["_law_number", "_law_most"] (sp__law_rows K) := by
  refine pure_ok2 F sc__law_rows rfl fun cdv A outer s H0 B0 E' n most hr hp => ?_
  obtain ⟨hn, hm1, hm4⟩ := hp
  have a0 := Int.emod_nonneg n (show most ≠ 0 by omega)
  have a1 := Int.emod_lt_of_pos n (show 0 < most by omega)
  obtain ⟨many, hmany⟩ : ∃ many, 1 + n % most = many := ⟨_, rfl⟩
  have b0 := Int.emod_nonneg (n / 4) (show 6 - many ≠ 0 by omega)
  have b1 := Int.emod_lt_of_pos (n / 4) (show 0 < 6 - many by omega)
  obtain ⟨wide, hwide⟩ : ∃ wide, many + n / 4 % (6 - many) = wide := ⟨_, rfl⟩
  have hh := highM_ok n
  have c0 := Int.emod_nonneg (n / 24) (show (4 : Int) ≠ 0 by decide)
  have c1 := Int.emod_lt_of_pos (n / 24) (show (0 : Int) < 4 by decide)
  have hres : rowsM n most = skewed (if vol (rows0 n many wide (highM n)) = 0 then rows1 n many wide (highM n) else rows0 n many wide (highM n)) (n / 192) := by
    unfold rowsM
    simp only
    rw [hmany, hwide]
  obtain ⟨high, hhigh⟩ : ∃ high, highM n = high := ⟨_, rfl⟩
  rw [hhigh] at hh hres
  have hmb : 1 ≤ many ∧ many ≤ 4 ∧ many ≤ wide ∧ wide ≤ 5 := by omega
  refine S.set 2 (E.eq (E.add E.int (E.mod (E.var 0 rfl) (E.var 1 rfl) ?_)) hmany) sc__law_rows.nd ?_
  · omega
  refine S.set 3 (E.eq (E.add (E.var 2 rfl) (E.mod (E.fdiv (E.var 0 rfl) E.int ?_) (E.sub E.int (E.var 2 rfl)) ?_)) hwide) sc__law_rows.nd ?_
  · exact divP (by decide) (by decide)
  · omega
  refine S.set 4 (E.eq (E.gT (0 : Int) (E.tup (.cons E.int (.cons E.int (.cons E.int (.cons E.int Es.nil)))) (by decide)) (E.mod (E.fdiv (E.var 0 rfl) E.int ?_) E.int ?_) ?_) hhigh) sc__law_rows.nd ?_
  · exact divP (by decide) (by decide)
  · decide
  · exact ⟨c0, by show _ < 4; omega⟩
  refine S.setM (S' := tupR intR) (ys := ([] : Tb)) 5 (EL.lst Es.nil (by decide)) sc__law_rows.nd (fun p => ?_)
  refine S.for (ι := Tb) (fun i t => t = ((rgI 0 many.toNat).take i).map fun k => rowK n wide high k) (fun t => mo B0 H0 p (tupR intR) t)
    (fun t => [some ⟨intR, n⟩, some ⟨intR, most⟩, some ⟨intR, many⟩, some ⟨intR, wide⟩, some ⟨intR, high⟩, some ⟨adrR, p⟩, none, none, none]) rfl (IT.rng1 (E.var 2 rfl) ?_ ?_ M.range) (Tg.name 6 sc__law_rows.nd) [] rfl (by repeat (first | exact trivial | refine ⟨by first | exact .inl rfl | exact .inr rfl, ?_⟩)) (fun _ _ h => h) (fun _ _ _ _ => trivial) (fun i x t hx ht => ?_) (fun t ht => ?_)
  · omega
  · omega
  · have hxi := rgI_get hx
    have hx0 : 0 ≤ x := by omega
    have hx1 : x < many := by omega
    refine S.set 7 (E.call2 D__law_drawn (hr.mono (by decide)) (EA.two (E.var 0 rfl) (E.var 6 rfl)) ?_) sc__law_rows.nd ?_
    · trivial
    refine S.set 8 (E.call3 D__law_row (hr.mono (by decide)) (EA.three (E.var 7 rfl) (E.var 3 rfl) (E.var 4 rfl)) ?_) sc__law_rows.nd ?_
    · omega
    have hrl := (rowM_ok (n := drawn n x) (wide := wide) (high := high) (by omega) (by omega)).1
    refine S.ifn (ι := List Int) (fun u => u = rowK n wide high x) (fun _ => mo B0 H0 p (tupR intR) t)
      (fun u => [some ⟨intR, n⟩, some ⟨intR, most⟩, some ⟨intR, many⟩, some ⟨intR, wide⟩, some ⟨intR, high⟩, some ⟨adrR, p⟩, some ⟨intR, x⟩, some ⟨intR, drawn n x⟩, some ⟨lstR intR, u⟩]) (T.cmpI .eq (E.mod (E.fdiv (E.var 0 rfl) E.int ?_) E.int ?_) E.int) (fun h => ?_) (fun h => ?_) (fun u hu => ?_)
    · exact divP (by decide) (by decide)
    · decide
    · have h' : n / 96 % 2 = 1 := of_decide_eq_true h
      refine S.set 8 (EL.cl (EL.cat (EL.lrx (EL.cat (EL.lrx (EL.sl (E.lr (E.var 8 rfl)) EO.no (EO.so (E.var 6 rfl)))) (EL.lrx (EL.lst (.cons (E.add E.int (E.mod (E.var 7 rfl) (E.var 4 rfl) ?_)) Es.nil) (by decide))) ?_)) (EL.lrx (EL.rep (EL.lst (.cons E.int Es.nil) (by decide)) (E.sub (E.sub (E.var 3 rfl) (E.var 6 rfl)) E.int) ?_ ?_ ?_)) ?_)) sc__law_rows.nd ?_
      · omega
      · rw [cut_to hx0, List.length_take]
        show min _ _ + 1 ≤ 10000
        omega
      · omega
      · omega
      · show 1 ≤ 1000
        decide
      · rw [List.length_append, cut_to hx0, List.length_take, rep_one, List.length_replicate]
        show min _ _ + 1 + _ ≤ 10000
        omega
      refine S.end' (ι := List Int) _ ?_ (by repeat (first | exact trivial | refine ⟨by first | exact .inl rfl | exact .inr rfl, ?_⟩)) (fun _ _ h => h)
      rw [cut_to hx0, rep_one]
      unfold rowK
      simp only
      rw [if_pos h']
    · have h' : ¬ n / 96 % 2 = 1 := of_decide_eq_false h
      refine ⟨_, ?_, (by repeat (first | exact trivial | refine ⟨by first | exact .inl rfl | exact .inr rfl, ?_⟩)), fun _ _ h => h⟩
      unfold rowK
      simp only
      rw [if_neg h']
    · subst hu
      refine S.app 5 rfl (E.tupL (E.var 8 rfl) M.tuple) ?_ ?_
      · rw [ht, List.length_map, List.length_take]
        omega
      refine S.end' (ι := Tb) (t ++ [rowK n wide high x]) ?_ (by repeat (first | exact trivial | refine ⟨by first | exact .inl rfl | exact .inr rfl, ?_⟩)) (fun _ _ h => h)
      rw [List.take_add_one, hx, List.map_append, ← ht]
      rfl
  · rw [rgI_len, List.take_of_length_le (by rw [rgI_len]; exact Nat.le_refl _)] at ht
    have ht : t = rows0 n many wide high := ht
    subst ht
    refine S.frz 5 rfl ?_
    have hg0 : Rs many.toNat wide.toNat (rows0 n many wide high) := hhigh ▸ rows0_ok (by omega) (by omega)
    have hg1 : Rs many.toNat wide.toNat (rows1 n many wide high) := (rows1_ok (by omega) (by omega) (by omega) (by omega) hh.1 hh.2).1
    refine S.ifn (ι := Tb) (fun u => u = if vol (rows0 n many wide high) = 0 then rows1 n many wide high else rows0 n many wide high) (fun _ => bo B0 H0)
      (fun u => [some ⟨intR, n⟩, some ⟨intR, most⟩, some ⟨intR, many⟩, some ⟨intR, wide⟩, some ⟨intR, high⟩, some ⟨lstR (tupR intR), u⟩, none, none, none]) (T.cmpI .eq (E.call1 D__law_volumeL (hr.mono (by decide)) (EA.one (E.var 5 rfl)) ?_) E.int) (fun h => ?_) (fun h => ?_) (fun u hu => ?_)
    · exact ⟨wide.toNat, hg0.rw (by omega) (by omega)⟩
    · have h' : vol (rows0 n many wide high) = 0 := of_decide_eq_true h
      refine S.setC 5 (CL.eq (CL.comp _ rfl sc__law_rows.nd (IT.rng1 (E.var 2 rfl) ?_ ?_ M.range) (fun _ _ _ => trivial) (blkOk_by (own := [("_law_k", 6)]) (N := ["_law_number", "_law_most", "_law_many", "_law_wide", "_law_high", "_law_rows_here", "_law_k", "_law_drawn_here", "_law_row_here"]) (sc := defScope s__law_rows) (by decide +kernel)) (fun p => (Tg.name 6 sc__law_rows.nd)) (by decide) ?_ (fun p x hx => (E.catT (E.catT (E.repT (E.tup (.cons E.int Es.nil) (by decide)) (E.var 6 rfl) ?_ ?_) (E.tup (.cons (E.add (E.add E.int (E.var 6 rfl)) (E.mod (E.var 0 rfl) (E.var 4 rfl) ?_)) Es.nil) (by decide)) ?_) (E.repT (E.tup (.cons (E.var 6 rfl) Es.nil) (by decide)) (E.sub (E.sub (E.var 3 rfl) (E.var 6 rfl)) E.int) ?_ ?_) ?_))) (?_ : _ = rows1 n many wide high)) sc__law_rows.nd ?_ (sw_true rfl rfl rfl (by decide +kernel))
      · omega
      · omega
      · rw [rgI_len]; omega
      all_goals try (have hxr := List.mem_iff_getElem?.mp hx; obtain ⟨q, hq⟩ := hxr; have hxi := rgI_get hq)
      · omega
      · exact ⟨by simp, by show 1 ≤ 1000; decide⟩
      · omega
      · rw [rep_one, List.length_replicate]
        show _ + 1 ≤ 10000
        omega
      · omega
      · exact ⟨by simp, by show 1 ≤ 1000; decide⟩
      · rw [List.length_append, rep_one, rep_one, List.length_replicate, List.length_replicate]
        show _ + 1 + _ ≤ 10000
        omega
      · unfold rows1
        simp only [rep_one]
      · refine S.end' (ι := Tb) _ ?_ (by repeat (first | exact trivial | refine ⟨by first | exact .inl rfl | exact .inr rfl, ?_⟩)) (fun _ _ h => h)
        rw [if_pos h']
    · have h' : ¬ vol (rows0 n many wide high) = 0 := of_decide_eq_false h
      refine ⟨_, ?_, (by repeat (first | exact trivial | refine ⟨by first | exact .inl rfl | exact .inr rfl, ?_⟩)), fun _ _ h => h⟩
      rw [if_neg h']
    · have hu2 : Rs many.toNat wide.toNat u := by rw [hu]; split <;> assumption
      refine S.ret (E.eq (E.call2 D__law_skewedL (hr.mono (by decide)) (EA.two (E.var 5 rfl) (E.fdiv (E.var 0 rfl) E.int ?_)) ?_) ?_) (fun v B H o r => ⟨Ob.go _ o, r⟩)
      · exact divP (by decide) (by decide)
      · exact ⟨by omega, many.toNat, wide.toNat, by omega, by omega, by omega, by omega, hu2⟩
      · rw [hres, ← hu]
abbrev s_product : Stmt := topS 4
theorem sc_product : FnScope ["one", "other", "left", "right"] ["one", "other"] (defScope s_product) := ⟨rfl, rfl, rfl, by decide +kernel, rfl, by decide +kernel, by decide +kernel⟩
abbrev sp_product (K : PySem.W.Frag) : Sp := Pur2 (tupR intR) (tupR intR) intR (fun x y => x.length = y.length ∧ x.length ≤ 1000 ∧ ∀ p ∈ x.zip y, IntMulOk p.1 p.2) dotI
theorem ok_product {f : Addr} {fd : FuncData} (F : Fun K "product" "product" s_product f fd) (M : Bi mg)  :
    FnOk P w K mg base CX0 1 f fd ["one", "other"] (sp_product K) := by
  refine pure_ok2 F sc_product rfl fun cdv A outer s H0 B0 E' x y hr hp => ?_
  obtain ⟨h1, h2, h3⟩ := hp
  refine S.ret (E.eq (E.sum rfl (EL.cl (CL.el (CL.comp _ rfl sc_product.nd (IT.zipT (E.var 0 rfl) (E.var 1 rfl) ?_ M.zip) (fun _ _ _ => trivial) (blkOk_by (own := [("left", 2), ("right", 3)]) (N := ["one", "other", "left", "right"]) (sc := defScope s_product) (by decide +kernel)) (fun p => (Tg.pair 2 3 rfl sc_product.nd)) (by decide) ?_ (fun p x hx => (E.mul (E.var 2 rfl) (E.var 3 rfl) ?_))))) M.sum) rfl) (fun v B H o r => ⟨Ob.go _ o, r⟩)
  · exact h1
  · rw [zip_len h1]
    exact Nat.le_trans h2 (by decide)
  · exact h3 _ hx

abbrev s_volume : Stmt := topS 6
theorem sc_volume : FnScope ["rows", "table", "one", "other", "last", "at", "lead", "below", "two"] ["rows"] (defScope s_volume) := ⟨rfl, rfl, rfl, by decide +kernel, rfl, by decide +kernel, by decide +kernel⟩
abbrev sp_volume (K : PySem.W.Frag) : Sp := Pur1 (tupR (tupR intR)) intR (fun a => ∃ w, Rw a w) vol
theorem ok_volume {f : Addr} {fd : FuncData} (F : Fun K "volume" "volume" s_volume f fd) (M : Bi mg) (D_product : Df P w K mg base 1 "product" ["one", "other"] (sp_product K)) :
    FnOk P w K mg base CX0 2 f fd ["rows"] (sp_volume K) := by
  refine pure_ok1 F sc_volume rfl fun cdv A outer s H0 B0 E' a hr hp => ?_
  obtain ⟨wd, hw⟩ := hp
  refine S.setM 1 (EL.eq (CL.el (CL.comp _ rfl sc_volume.nd (IT.tup (E.var 0 rfl)) (fun _ _ _ => trivial) (blkOk_by (own := [("one", 2)]) (N := ["rows", "table", "one", "other", "last", "at", "lead", "below", "two"]) (sc := defScope s_volume) (by decide +kernel)) (fun p => (Tg.name 2 sc_volume.nd)) (by decide) ?_ (fun p x hx => (EL.cl (CL.el (CL.comp _ rfl sc_volume.nd (IT.tup (E.var 0 rfl)) (fun _ _ _ => trivial) (blkOk_by (own := [("other", 3)]) (N := ["rows", "table", "one", "other", "last", "at", "lead", "below", "two"]) (by rfl)) (fun p => (Tg.name 3 sc_volume.nd)) (by decide) ?_ (fun p1 x1 hx1 => (E.call2 D_product (hr.mono (by decide)) (EA.two (E.var 2 rfl) (E.var 3 rfl)) ?_)))))))) (rfl : _ = gram a)) sc_volume.nd (fun p => ?_) (hs := sw_cell (by rfl))
  · exact Nat.le_trans hw.n4 (by decide)
  · exact Nat.le_trans hw.n4 (by decide)
  · refine ⟨(hw.wid _ hx).trans (hw.wid _ hx1).symm, by rw [hw.wid _ hx]; exact Nat.le_trans hw.w5 (by decide), fun q hq => ?_⟩
    have := List.of_mem_zip hq
    exact mulR (Nat.lt_trans (hw.bd _ hx1 _ this.2) (by decide))
  refine S.set 4 E.int sc_volume.nd ?_
  have hsq := gram_sq hw
  have hn4 := hw.n4
  refine S.for (ι := Tb × Int) (fun i t => Sq a.length (eb i) t.1 ∧ t.2 ≠ 0 ∧ t.2.natAbs < 2 ^ eb i ∧ volGo a.length (a.length - i) i t.1 t.2 = vol a) (fun t => mo B0 H0 p (lstR intR) t.1)
    (fun t => [some ⟨tupR (tupR intR), a⟩, some ⟨adrR, p⟩, none, none, some ⟨intR, t.2⟩, none, none, none, none]) rfl (IT.eq (IT.rng1 (E.lenL (mo_lr 1 rfl) M.len) ?_ ?_ M.range) (show _ = rgI 0 ((a.length : Int)).toNat by rw [hsq.len])) (Tg.name 5 sc_volume.nd) (gram a, 1) ⟨hsq, show (1 : Int) ≠ 0 by decide, show (1 : Int).natAbs < 2 ^ eb 0 by decide, rfl⟩ (by repeat (first | exact trivial | refine ⟨by first | exact .inl rfl | exact .inr rfl, ?_⟩)) (fun _ _ h => h) (fun _ _ _ _ => trivial) (fun i x t hx ht => ?_) (fun t ht => ?_)
  · rw [hsq.len]
    omega
  · rw [hsq.len]
    omega
  · obtain ⟨rfl, hi⟩ := rgI_get hx
    have hi' : i < a.length := by omega
    obtain ⟨t1, last⟩ := t
    obtain ⟨h1, h2, h3, h4⟩ := ht
    have hr1 := h1.row hi'
    have ha1 := h1.at hi' hi'
    have na : (0 + (i : Int)).toNat = i := by omega
    refine S.ifr (T.eq (T.cmpI .eq (E.gL (0 : Int) (E.lr (E.gL [] (mo_lr 1 rfl) (E.var 5 rfl) ?_)) (E.var 5 rfl) ?_) E.int) (show _ = decide (at2 t1 i i = 0) by rw [na]; rfl)) (fun hz => ?_) (fun hz => ?_)
    · exact ⟨by omega, by rw [na, h1.len]; exact hi'⟩
    · rw [na]
      exact ⟨by omega, by rw [hr1.2.1]; exact hi'⟩
    · have hz' : at2 t1 i i = 0 := of_decide_eq_true hz
      refine S.ret (E.eq E.int ?_) (fun v B H o r => ⟨Ob.go _ o, r⟩)
      rw [← h4, show a.length - i = (a.length - i - 1) + 1 by omega]
      unfold volGo
      rw [if_pos hz']
    have hz' : at2 t1 i i ≠ 0 := of_decide_eq_false hz
    have hIn := elimA_ok h1 h2 hi'
    refine S.for (ι := Tb) (fun k u => u = elimA a.length last i t1 k) (fun u => mo B0 H0 p (lstR intR) u)
      (fun u => [some ⟨tupR (tupR intR), a⟩, some ⟨adrR, p⟩, none, none, some ⟨intR, last⟩, some ⟨intR, 0 + (i : Int)⟩, none, none, none]) rfl (IT.eq (IT.rng2 (E.add (E.var 5 rfl) E.int) (E.lenL (mo_lr 1 rfl) M.len) ?_ M.range) (show _ = rgI (0 + (i : Int) + 1) ((a.length : Int) - (0 + (i : Int) + 1)).toNat by rw [h1.len])) (Tg.name 7 sc_volume.nd) t1 rfl (by repeat (first | exact trivial | refine ⟨by first | exact .inl rfl | exact .inr rfl, ?_⟩)) (fun _ _ h => h) (fun _ _ _ _ => trivial) (fun k y u hy hu => ?_) (fun u hu => ?_)
    · rw [h1.len]
      omega
    · obtain ⟨rfl, hk⟩ := rgI_get hy
      subst hu
      have hk3 : i + 1 + k < a.length := by omega
      obtain ⟨g1, g2⟩ := hIn k (by omega)
      have e1 := g2 i (.inl (Nat.le_refl _))
      have e2 := g2 (i + 1 + k) (.inr (Nat.le_refl _))
      have ra := g1.row hi'
      have rb := g1.row hk3
      have nb : (0 + (i : Int) + 1 + (k : Int)).toNat = i + 1 + k := by omega
      have ep : at2 (elimA a.length last i t1 k) i i = at2 t1 i i := by unfold at2; rw [e1]
      refine S.set 6 (E.eq (E.gL (0 : Int) (E.lr (E.gL [] (mo_lr 1 rfl) (E.var 7 rfl) ?_)) (E.var 5 rfl) ?_) (show _ = at2 (elimA a.length last i t1 k) (i + 1 + k) i by rw [na, nb]; rfl)) sc_volume.nd ?_
      · exact ⟨by omega, by rw [nb, g1.len]; exact hk3⟩
      · rw [na, nb]
        exact ⟨by omega, by rw [rb.2.1]; exact hi'⟩
      refine S.sto 1 (m := i + 1 + k) rfl (E.eq (EL.cl (CL.el (CL.comp _ rfl sc_volume.nd (IT.zipL (E.gL [] (mo_lr 1 rfl) (E.var 7 rfl) ?_) (E.gL [] (mo_lr 1 rfl) (E.var 5 rfl) ?_) ?_ M.zip) (fun _ _ _ => trivial) (blkOk_by (own := [("one", 2), ("two", 8)]) (N := ["rows", "table", "one", "other", "last", "at", "lead", "below", "two"]) (sc := defScope s_volume) (by decide +kernel)) (fun p => (Tg.pair 2 8 rfl sc_volume.nd)) (by decide) ?_ (fun p x hx => (E.fdivA (E.sub (E.mul (E.gL (0 : Int) (E.lr (E.gL [] (mo_lr 1 rfl) (E.var 5 rfl) ?_)) (E.var 5 rfl) ?_) (E.var 2 rfl) ?_) (E.mul (E.var 6 rfl) (E.var 8 rfl) ?_)) (E.var 4 rfl) ?_))))) rfl) (E.var 7 rfl) (ix_i (by omega) (by rw [g1.len]; exact hk3)) ?_
      · exact ⟨by omega, by rw [nb, g1.len]; exact hk3⟩
      · exact ⟨by omega, by rw [na, g1.len]; exact hi'⟩
      · rw [na, nb, ra.2.1, rb.2.1]
      · rw [na, nb, zip_len (rb.2.1.trans ra.2.1.symm), rb.2.1]
        exact Nat.le_trans hn4 (by decide)
      · exact ⟨by omega, by rw [na, g1.len]; exact hi'⟩
      · rw [na]
        exact ⟨by omega, by rw [ra.2.1]; exact hi'⟩
      · have hm := (List.of_mem_zip hx).1
        rw [nb, e2] at hm
        rw [na]
        show IntMulOk (at2 (elimA a.length last i t1 k) i i) _
        rw [ep]
        exact mulB (eb i) (eb i) (h1.at hi' hi').2 ((h1.row hk3).2.2 _ hm) (by have := eb_le (a := i) (by omega); omega)
      · have hm := (List.of_mem_zip hx).2
        rw [na, e1] at hm
        have e3 : at2 (elimA a.length last i t1 k) (i + 1 + k) i = at2 t1 (i + 1 + k) i := by unfold at2; rw [e2]
        rw [e3]
        exact mulB (eb i) (eb i) (h1.at hk3 hi').2 ((h1.row hi').2.2 _ hm) (by have := eb_le (a := i) (by omega); omega)
      · exact divB (eb i) h2 h3 (by have := eb_le (a := i) (by omega); omega)
      refine S.end' (ι := Tb) (elimA a.length last i t1 (k + 1)) rfl (by repeat (first | exact trivial | refine ⟨by first | exact .inl rfl | exact .inr rfl, ?_⟩)) ?_
      rw [elimA_succ]
      unfold elimB
      rw [na, nb]
      exact fun _ _ h => h
    subst hu
    rw [rgI_len, show ((a.length : Int) - (0 + (i : Int) + 1)).toNat = a.length - (i + 1) by omega]
    obtain ⟨g1, g2⟩ := hIn (a.length - (i + 1)) (by omega)
    have ri := g1.row hi'
    have ei := g2 i (.inl (Nat.le_refl _))
    refine S.set 4 (E.eq (E.gL (0 : Int) (E.lr (E.gL [] (mo_lr 1 rfl) (E.var 5 rfl) ?_)) (E.var 5 rfl) ?_) (show _ = at2 t1 i i by rw [na, ei]; rfl)) sc_volume.nd ?_
    · exact ⟨by omega, by rw [na, g1.len]; exact hi'⟩
    · rw [na]
      exact ⟨by omega, by rw [ri.2.1]; exact hi'⟩
    refine S.end' (ι := Tb × Int) (elimA a.length last i t1 (a.length - (i + 1)), at2 t1 i i) ⟨eb_succ i ▸ g1, hz', Nat.lt_of_lt_of_le ha1.2 (Nat.pow_le_pow_right (by decide) (by have := eb_succ i; omega)), ?_⟩ (by repeat (first | exact trivial | refine ⟨by first | exact .inl rfl | exact .inr rfl, ?_⟩)) (fun _ _ h => h)
    rw [← h4, show a.length - i = (a.length - (i + 1)) + 1 by omega]
    conv => rhs; unfold volGo
    rw [if_neg hz']
  · rw [rgI_len] at ht
    have hn : ((a.length : Int)).toNat = a.length := by omega
    rw [hn] at ht
    obtain ⟨_, _, _, h4⟩ := ht
    refine S.ret (E.eq (E.var 4 rfl) ?_) (fun v B H o r => ⟨Ob.go _ o, r⟩)
    rw [← h4, Nat.sub_self]
    rfl
abbrev s_is_row : Stmt := topS 5
theorem sc_is_row : FnScope ["thing", "wide", "part"] ["thing", "wide"] (defScope s_is_row) := ⟨rfl, rfl, rfl, by decide +kernel, rfl, by decide +kernel, by decide +kernel⟩
abbrev sp_is_row (K : PySem.W.Frag) : Sp := Pur2 datR intR blR (fun x w => w ≤ 5) isRowM
theorem ok_is_row {f : Addr} {fd : FuncData} (F : Fun K "is_row" "is_row" s_is_row f fd) (M : Bi mg) (CS : Cs mg) :
    FnOk P w K mg base CX0 1 f fd ["thing", "wide"] (sp_is_row K) := by
  refine pure_ok2 F sc_is_row rfl fun cdv A outer s H0 B0 E' x w hr hw => ?_
  refine S.ifr (TW.t (TW.or (T.not (T.val (E.isiD (n := "tuple") (E.var 0 rfl) (kitT _) M.isinstance M.tuple (by decide +kernel)))) fun _ => (TW.or1 (T.cmpI .ne (E.lenT (E.tupD (E.var 0 rfl) ?_) M.len) (E.var 1 rfl))))) (fun h => ?_) (fun h => ?_)
  · rename_i h
    simpa using h
  · refine S.ret (E.eq E.bl ?_) (fun v B H o r => ⟨Ob.go _ o, r⟩)
    unfold isRowM
    cases h1 : isT x with
    | false => rfl
    | true =>
      rw [h1] at h
      have h2 : decide (((dItems x).length : Int) = w) = false := by simpa using h
      rw [h2]
      rfl
  · rw [Bool.or_eq_false_iff] at h
    have h1 : isT x = true := by simpa using h.1
    have h2 : ((dItems x).length : Int) = w := by simpa using h.2
    refine S.ret (E.eq (E.all rfl (EL.cl (CL.el (CL.comp _ rfl sc_is_row.nd (IT.tup (E.tupD (E.var 0 rfl) ?_)) (fun _ _ _ => trivial) (blkOk_by (own := [("part", 2)]) (N := ["thing", "wide", "part"]) (sc := defScope s_is_row) (by decide +kernel)) (fun p => (Tg.name 2 sc_is_row.nd)) (by decide) ?_ (fun p x hx => (E.and (E.isiD (n := "int") (E.var 2 rfl) (kitI _) M.isinstance M.int (by decide +kernel)) fun _ => (E.and (E.not (E.isiD (n := "bool") (E.var 2 rfl) (kitBo _) M.isinstance M.bool (by decide +kernel))) fun _ => (E.one (E.cmpI .le (E.abs (E.intD (E.var 2 rfl) ?_) M.abs) (E.gInt CS.greatest))))))))) M.all) ?_) (fun v B H o r => ⟨Ob.go _ o, r⟩)
    · exact h1
    · omega
    · rename_i q1 q2
      exact isNm_of q1 (by simpa using q2)
    · unfold isRowM
      rw [h1, decide_eq_true h2, List.all_map]
      rfl
abbrev s_are_rows : Stmt := topS 7
theorem sc_are_rows : FnScope ["thing", "wide", "row"] ["thing"] (defScope s_are_rows) := ⟨rfl, rfl, rfl, by decide +kernel, rfl, by decide +kernel, by decide +kernel⟩
abbrev sp_are_rows (K : PySem.W.Frag) : Sp := Pur1 datR blR (fun _ => True) areM
theorem ok_are_rows {f : Addr} {fd : FuncData} (F : Fun K "are_rows" "are_rows" s_are_rows f fd) (M : Bi mg) (D_is_row : Df P w K mg base 1 "is_row" ["thing", "wide"] (sp_is_row K)) (D_volume : Df P w K mg base 2 "volume" ["rows"] (sp_volume K)) (CS : Cs mg) :
    FnOk P w K mg base CX0 3 f fd ["thing"] (sp_are_rows K) := by
  refine pure_ok1 F sc_are_rows rfl fun cdv A outer s H0 B0 E' d hr hp => ?_
  refine S.ifr (TW.t (TW.or (T.not (T.val (E.isiD (n := "tuple") (E.var 0 rfl) (kitT _) M.isinstance M.tuple (by decide +kernel)))) fun _ => (TW.or (T.not (T.chain .le .le E.int (E.lenT (E.tupD (E.var 0 rfl) ?_) M.len) (E.gInt CS.most))) fun _ => (TW.or1 (T.not (T.val (E.isiD (n := "tuple") (E.gT PyData.none (E.tupD (E.var 0 rfl) ?_) E.int ?_) (kitT _) M.isinstance M.tuple (by decide +kernel)))))))) (fun h => ?_) (fun h => ?_)
  · rename_i h
    simpa using h
  · rename_i h _
    simpa using h
  · rename_i _ h
    have h := show (!(decide ((1 : Int) ≤ ((dItems d).length : Int)) && decide (((dItems d).length : Int) ≤ 4))) = false from h
    have h := chain_f h
    exact ⟨by decide, by show 0 < _; omega⟩
  · refine S.ret (E.eq E.bl ?_) (fun v B H o r => ⟨Ob.go _ o, r⟩)
    have h := show (!isT d || (!(decide ((1 : Int) ≤ ((dItems d).length : Int)) && decide (((dItems d).length : Int) ≤ 4)) || !isT ((dItems d).getD 0 .none))) = true from h
    refine (Bool.eq_false_iff.mpr fun z => ?_).symm
    obtain ⟨z1, z2, z3, _⟩ := areM_iff.mp z
    rw [z1, z3, decide_eq_true (show (1 : Int) ≤ ((dItems d).length : Int) by omega), decide_eq_true (show ((dItems d).length : Int) ≤ 4 by omega)] at h
    cases h
  · have h := show (!isT d || (!(decide ((1 : Int) ≤ ((dItems d).length : Int)) && decide (((dItems d).length : Int) ≤ 4)) || !isT ((dItems d).getD 0 .none))) = false from h
    rw [Bool.or_eq_false_iff, Bool.or_eq_false_iff] at h
    have h1 : isT d = true := by simpa using h.1
    have h3 : isT ((dItems d).getD 0 .none) = true := by simpa using h.2.2
    have h2 : 1 ≤ (dItems d).length ∧ (dItems d).length ≤ 4 := by
      have := chain_f h.2.1
      omega
    refine S.set 1 (E.lenT (E.tupD (E.gT PyData.none (E.tupD (E.var 0 rfl) ?_) E.int ?_) ?_) M.len) sc_are_rows.nd ?_
    · exact h1
    · exact ⟨by decide, by show 0 < _; omega⟩
    · exact h3
    refine S.ifr (TW.t (TW.or (T.not (T.chain .le .le E.int (E.var 1 rfl) (E.gInt CS.widest))) fun _ => (TW.or1 (T.not (T.val (E.all rfl (EL.cl (CL.el (CL.comp _ rfl sc_are_rows.nd (IT.tup (E.tupD (E.var 0 rfl) ?_)) (fun _ _ _ => trivial) (blkOk_by (own := [("row", 2)]) (N := ["thing", "wide", "row"]) (sc := defScope s_are_rows) (by decide +kernel)) (fun p => (Tg.name 2 sc_are_rows.nd)) (by decide) ?_ (fun p x hx => (E.call2 D_is_row (hr.mono (by decide)) (EA.two (E.var 2 rfl) (E.var 1 rfl)) ?_))))) M.all)))))) (fun h => ?_) (fun h => ?_)
    · exact h1
    · omega
    · rename_i hq
      have hq := show (!(decide ((1 : Int) ≤ ((dItems ((dItems d).getD 0 .none)).length : Int)) && decide (((dItems ((dItems d).getD 0 .none)).length : Int) ≤ 5))) = false from hq
      have hq := chain_f hq
      show ((dItems ((dItems d).getD 0 .none)).length : Int) ≤ 5
      omega
    · refine S.ret (E.eq E.bl ?_) (fun v B H o r => ⟨Ob.go _ o, r⟩)
      refine (Bool.eq_false_iff.mpr fun z => ?_).symm
      obtain ⟨_, _, _, z4, z5, _⟩ := areM_iff.mp z
      have h := show (!(decide ((1 : Int) ≤ ((dItems ((dItems d).getD 0 .none)).length : Int)) && decide (((dItems ((dItems d).getD 0 .none)).length : Int) ≤ 5)) || !(((dItems d).map fun r => isRowM r ((dItems ((dItems d).getD 0 .none)).length : Int)).all id)) = true from h
      rw [List.all_map, decide_eq_true (show (1 : Int) ≤ ((dItems ((dItems d).getD 0 .none)).length : Int) by omega), decide_eq_true (show ((dItems ((dItems d).getD 0 .none)).length : Int) ≤ 5 by omega)] at h
      have z5' : (dItems d).all (id ∘ fun r => isRowM r ((dItems ((dItems d).getD 0 .none)).length : Int)) = true := List.all_eq_true.mpr z5
      rw [z5'] at h
      cases h
    · have h := show (!(decide ((1 : Int) ≤ ((dItems ((dItems d).getD 0 .none)).length : Int)) && decide (((dItems ((dItems d).getD 0 .none)).length : Int) ≤ 5)) || !(((dItems d).map fun r => isRowM r ((dItems ((dItems d).getD 0 .none)).length : Int)).all id)) = false from h
      rw [Bool.or_eq_false_iff, List.all_map] at h
      have h4 : 1 ≤ (dItems ((dItems d).getD 0 .none)).length ∧ (dItems ((dItems d).getD 0 .none)).length ≤ 5 := by
        have := chain_f h.1
        omega
      have h5 : ∀ r ∈ dItems d, isRowM r ((dItems ((dItems d).getD 0 .none)).length : Int) = true := List.all_eq_true.mp (show (dItems d).all (id ∘ fun r => isRowM r ((dItems ((dItems d).getD 0 .none)).length : Int)) = true by simpa using h.2)
      refine S.ret (E.eq (E.cmpI .ne (E.call1 D_volume (hr.mono (by decide)) (EA.one (E.tabD (E.var 0 rfl) ?_)) ?_) E.int) ?_) (fun v B H o r => ⟨Ob.go _ o, r⟩)
      · exact ⟨h1, fun y hy => ⟨(isRowM_iff.mp (h5 y hy)).1, fun z hz => (goodP_n ((isRowM_iff.mp (h5 y hy)).2.2 z hz)).1⟩⟩
      · exact ⟨_, tab_rw h2.2 h4.2 fun r hr => ⟨(isRowM_iff.mp (h5 r hr)).1, by have := (isRowM_iff.mp (h5 r hr)).2.1; omega, (isRowM_iff.mp (h5 r hr)).2.2⟩⟩
      · unfold areM
        rw [h1, decide_eq_true h2, h3, decide_eq_true h4, List.all_eq_true.mpr h5]
        simp
abbrev s__law_are_rows : Stmt := topS 17
theorem sc__law_are_rows : FnScope ["_law_thing", "_law_sizes", "_law_row_here", "_law_part"] ["_law_thing"] (defScope s__law_are_rows) := ⟨rfl, rfl, rfl, by decide +kernel, rfl, by decide +kernel, by decide +kernel⟩
abbrev sp__law_are_rows (K : PySem.W.Frag) : Sp := Pur1 datR blR (Wf 60) lawAreM
theorem ok__law_are_rows {f : Addr} {fd : FuncData} (F : Fun K "_law_are_rows" "_law_are_rows" s__law_are_rows f fd) (M : Bi mg) (D__law_volumeT : Df P w K mg base 2 "_law_volume" ["_law_rows_here"] (sp__law_volumeT K)) :
    FnOk P w K mg base CX0 3 f fd ["_law_thing"] (sp__law_are_rows K) := by
  refine pure_ok1 F sc__law_are_rows rfl fun cdv A outer s H0 B0 E' x hr hp => ?_
  refine S.ifr (TW.t (TW.or (T.not (T.val (E.isiD (n := "tuple") (E.var 0 rfl) (kitT _) M.isinstance M.tuple (by decide +kernel)))) fun _ => (TW.or1 (T.not (T.chain .le .le E.int (E.lenT (E.tupD (E.var 0 rfl) ?_) M.len) E.int))))) (fun h => ?_) (fun h => ?_)
  · rename_i h
    simpa using h
  · refine S.ret (E.eq E.bl ?_) (fun v B H o r => ⟨Ob.go _ o, r⟩)
    have h := show (!isT x || !(decide ((1 : Int) ≤ ((dItems x).length : Int)) && decide (((dItems x).length : Int) ≤ 4))) = true from h
    refine (Bool.eq_false_iff.mpr fun z => ?_).symm
    obtain ⟨z1, z2, _⟩ := lawAreM_iff.mp z
    rw [z1, decide_eq_true (show (1 : Int) ≤ ((dItems x).length : Int) by omega), decide_eq_true (show ((dItems x).length : Int) ≤ 4 by omega)] at h
    cases h
  have h := show (!isT x || !(decide ((1 : Int) ≤ ((dItems x).length : Int)) && decide (((dItems x).length : Int) ≤ 4))) = false from h
  rw [Bool.or_eq_false_iff] at h
  have h1 : isT x = true := by simpa using h.1
  have h2 : 1 ≤ (dItems x).length ∧ (dItems x).length ≤ 4 := by
    have := chain_f h.2
    omega
  refine S.setD 1 sc__law_are_rows.nd (fun p => ?_)
  refine S.for (ι := List Int) (fun i t => t = (((dItems x).take i).map fun y => ((dItems y).length : Int)).foldl insK [] ∧ (∀ y ∈ (dItems x).take i, lawRowM y = true) ∧ t.length ≤ i) (fun t => mdo B0 H0 p t)
    (fun t => [some ⟨datR, x⟩, some ⟨adrR, p⟩, none, none]) rfl (IT.tup (E.tupD (E.var 0 rfl) ?_)) (Tg.name 2 sc__law_are_rows.nd) [] ⟨rfl, fun y hy => absurd hy (List.not_mem_nil), Nat.le_refl _⟩ (by repeat (first | exact trivial | refine ⟨by first | exact .inl rfl | exact .inr rfl, ?_⟩)) (fun _ _ h => h) (fun _ _ _ _ => trivial) (fun i y t hy ht => ?_) (fun t ht => ?_)
  · exact h1
  · obtain ⟨ht, hall, htl⟩ := ht
    have hmem : y ∈ dItems x := List.mem_of_getElem? hy
    have hwy : Wf 59 y := wf_in hp hmem
    have hil : i < (dItems x).length := (List.getElem?_eq_some_iff.mp hy).1
    refine S.ifr (TW.t (TW.or (T.not (T.val (E.isiD (n := "tuple") (E.var 2 rfl) (kitT _) M.isinstance M.tuple (by decide +kernel)))) fun _ => (TW.or1 (T.not (T.chain .le .le E.int (E.lenT (E.tupD (E.var 2 rfl) ?_) M.len) E.int))))) (fun h => ?_) (fun h => ?_)
    · rename_i h
      simpa using h
    · refine S.ret (E.eq E.bl ?_) (fun v B H o r => ⟨Ob.go _ o, r⟩)
      have h := show (!isT y || !(decide ((1 : Int) ≤ ((dItems y).length : Int)) && decide (((dItems y).length : Int) ≤ 5))) = true from h
      refine (Bool.eq_false_iff.mpr fun z => ?_).symm
      obtain ⟨z1, z2, _⟩ := lawRowM_iff.mp ((lawAreM_iff.mp z).2.2.1 y hmem)
      rw [z1, decide_eq_true (show (1 : Int) ≤ ((dItems y).length : Int) by omega), decide_eq_true (show ((dItems y).length : Int) ≤ 5 by omega)] at h
      cases h
    have h := show (!isT y || !(decide ((1 : Int) ≤ ((dItems y).length : Int)) && decide (((dItems y).length : Int) ≤ 5))) = false from h
    rw [Bool.or_eq_false_iff] at h
    have g1 : isT y = true := by simpa using h.1
    have g2 : 1 ≤ (dItems y).length ∧ (dItems y).length ≤ 5 := by
      have := chain_f h.2
      omega
    refine S.ifr (T.neL hr (EL.cl (CL.el (CL.compT _ _ rfl sc__law_are_rows.nd (IT.tup (E.tupD (E.var 2 rfl) ?_)) (fun _ _ _ => trivial) (blkOk_by (own := [("_law_part", 3)]) (N := ["_law_thing", "_law_sizes", "_law_row_here", "_law_part"]) (sc := defScope s__law_are_rows) (by decide +kernel)) (fun p => (Tg.name 3 sc__law_are_rows.nd)) (by decide) ?_ (fun p x hx => (TW.t (TW.or (T.not (T.val (E.isiD (n := "int") (E.var 3 rfl) (kitI _) M.isinstance M.int (by decide +kernel)))) fun _ => (TW.or (T.val (E.isiD (n := "bool") (E.var 3 rfl) (kitBo _) M.isinstance M.bool (by decide +kernel))) fun _ => (TW.or1 (T.cmpI .gt (E.abs (E.intD (E.var 3 rfl) ?_) M.abs) E.int)))))) (fun p x hx hk => (E.var 3 rfl))))) (EL.cl (EL.lst Es.nil (by decide))) ?_) (fun h => ?_) (fun h => ?_)
    · exact g1
    · omega
    · rename_i q1 q2
      exact isNm_of (by simpa using q1) q2
    · intro z hz
      obtain ⟨u, hu, rfl⟩ := List.mem_map.mp hz
      exact (wf_in hwy (List.mem_filter.mp hu).1).le (by decide)
    · refine S.ret (E.eq E.bl ?_) (fun v B H o r => ⟨Ob.go _ o, r⟩)
      refine (Bool.eq_false_iff.mpr fun z => ?_).symm
      obtain ⟨_, _, z3⟩ := lawRowM_iff.mp ((lawAreM_iff.mp z).2.2.1 y hmem)
      have h := show (!(((dItems y).filter badP).map fun u => u).isEmpty) = true from h
      rw [bad_nil, List.all_eq_true.mpr z3] at h
      cases h
    have h := show (!(((dItems y).filter badP).map fun u => u).isEmpty) = false from h
    rw [bad_nil] at h
    have g3 : ∀ z ∈ dItems y, goodP z = true := List.all_eq_true.mp (by simpa using h)
    refine S.stoD 1 hr rfl (E.lenT (E.tupD (E.var 2 rfl) ?_) M.len) ?_ ?_
    · exact g1
    · omega
    · refine S.end' (ι := List Int) _ ⟨?_, fun z hz => ?_, ?_⟩ (by repeat (first | exact trivial | refine ⟨by first | exact .inl rfl | exact .inr rfl, ?_⟩)) (fun _ _ h => h)
      · rw [List.take_add_one, hy, List.map_append, List.foldl_append, ← ht]
        rfl
      · rw [List.take_add_one, hy] at hz
        rcases List.mem_append.mp hz with q | q
        · exact hall z q
        · rw [List.mem_singleton.mp (show z ∈ [y] from q)]
          exact lawRowM_iff.mpr ⟨g1, g2, g3⟩
      · unfold insK
        split
        · omega
        · rw [List.length_append]
          show _ + 1 ≤ _
          omega
  · obtain ⟨ht, hall, htl⟩ := ht
    rw [List.take_length] at ht hall
    have htl' : t = lensM (dItems x) := ht
    refine S.ret (E.eq (E.and (E.cmpI .eq (E.lenDK 1 rfl M.len) E.int) fun _ => (E.one (E.cmpI .ne (E.call1 D__law_volumeT (hr.mono (by decide)) (EA.one (E.tabD (E.var 0 rfl) ?_)) ?_) E.int))) ?_) (fun v B H o r => ⟨Ob.go _ o, r⟩)
    · exact ⟨h1, fun y hy => ⟨(lawRowM_iff.mp (hall y hy)).1, fun z hz => (goodP_n ((lawRowM_iff.mp (hall y hy)).2.2 z hz)).1⟩⟩
    · rename_i hk
      have hk : ((t.length : Nat) : Int) = 1 := of_decide_eq_true hk
      rw [htl'] at hk
      cases hx : dItems x with
      | nil =>
        rw [hx] at h2
        exact absurd h2.1 (by decide)
      | cons a r =>
        have hk : (lensM (a :: r)).length = 1 := by rw [← hx]; omega
        have hone := lens_iff.mp hk
        have ha : a ∈ dItems x := by rw [hx]; exact List.mem_cons_self ..
        refine ⟨(dItems a).length, tab_rw h2.2 (lawRowM_iff.mp (hall a ha)).2.1.2 fun y hy => ⟨(lawRowM_iff.mp (hall y hy)).1, hone y (by rw [← hx]; exact hy), (lawRowM_iff.mp (hall y hy)).2.2⟩⟩
    · unfold lawAreM
      rw [h1, decide_eq_true h2, List.all_eq_true.mpr hall, ← htl']
      have e : decide ((t.length : Int) = 1) = decide (t.length = 1) := decide_eq_decide.mpr (by omega)
      simp
      rw [e]
abbrev s__law_odd : Stmt := topS 18
theorem sc__law_odd : FnScope ["_law_number", "_law_some"] ["_law_number"] (defScope s__law_odd) := ⟨rfl, rfl, rfl, by decide +kernel, rfl, by decide +kernel, by decide +kernel⟩
abbrev sp__law_odd (K : PySem.W.Frag) : Sp := Pur1 intR datR (fun _ => True) oddM
theorem ok__law_odd {f : Addr} {fd : FuncData} (F : Fun K "_law_odd" "_law_odd" s__law_odd f fd) (M : Bi mg)  :
    FnOk P w K mg base CX0 1 f fd ["_law_number"] (sp__law_odd K) := by
  refine pure_ok1 F sc__law_odd rfl fun cdv A outer s H0 B0 E' nu hr hp => ?_
  have b0 := Int.emod_nonneg nu (show (24 : Int) ≠ 0 by decide)
  have b1 := Int.emod_lt_of_pos nu (show (0 : Int) < 24 by decide)
  refine S.set 1 (E.eq (EL.cl (EL.lst (.cons (E.toD tdInt (E.neg E.int)) (.cons (E.toD tdInt E.int) (.cons (E.toD tdInt E.int) (.cons (E.toD tdInt E.int) (.cons (E.toD tdInt E.int) (.cons (E.toD tdBl E.bl) (.cons (E.toD tdBl E.bl) (.cons E.nonD (.cons E.strD (.cons E.strD (.cons (E.toD tdTupD (E.tup Es.nil (by decide))) (.cons (E.toD tdLstD (EL.cl (EL.lst Es.nil (by decide)))) (.cons (E.toD tdTupD (E.tup (.cons (E.toD tdInt E.int) Es.nil) (by decide))) (.cons (E.toD tdTupD (E.tup (.cons (E.toD tdInt E.int) Es.nil) (by decide))) (.cons (E.toD tdTupD (E.tup (.cons (E.toD tdInt E.int) (.cons (E.toD tdInt E.int) Es.nil)) (by decide))) (.cons (E.toD tdTupD (E.tup (.cons (E.toD tdInt E.int) (.cons (E.toD tdInt E.int) Es.nil)) (by decide))) (.cons (E.toD tdTupD (E.tup (.cons (E.toD tdTupD (E.tup (.cons (E.toD tdInt E.int) Es.nil) (by decide))) Es.nil) (by decide))) (.cons (E.toD tdLstD (EL.cl (EL.lst (.cons (E.toD tdInt E.int) Es.nil) (by decide)))) (.cons (E.toD tdTupD (E.tup (.cons E.nonD Es.nil) (by decide))) Es.nil))))))))))))))))))) (by decide))) (rfl : _ = oddA)) sc__law_odd.nd ?_
  refine S.ret (E.eq (E.gL PyData.none (EL.lrx (EL.cat (E.lr (E.var 1 rfl)) (EL.lrx (EL.lst (.cons (E.toD tdTupD (E.tup (.cons (E.toD tdInt E.int) (.cons (E.toD tdBl E.bl) Es.nil)) (by decide))) (.cons (E.toD tdTupD (E.tup (.cons (E.toD tdInt (E.neg E.int)) (.cons (E.toD tdInt E.int) Es.nil)) (by decide))) (.cons (E.toD tdInt E.int) (.cons (E.toD tdTupD (E.tup (.cons (E.toD tdInt E.int) (.cons (E.toD tdInt E.int) (.cons (E.toD tdInt E.int) Es.nil))) (by decide))) (.cons (E.toD tdTupD (E.tup (.cons (E.toD tdTupD (E.tup (.cons (E.toD tdInt E.int) (.cons (E.toD tdInt E.int) Es.nil)) (by decide))) (.cons (E.toD tdTupD (E.tup (.cons (E.toD tdInt E.int) (.cons (E.toD tdInt E.int) Es.nil)) (by decide))) Es.nil)) (by decide))) Es.nil))))) (by decide))) ?_)) (E.mod (E.var 0 rfl) E.int ?_) ?_) ?_) (fun v B H o r => ⟨Ob.go _ o, r⟩)
  · decide
  · decide
  · exact ⟨b0, by show _ < 24; omega⟩
  · rfl
abbrev s__law_spoilt : Stmt := topS 19
theorem sc__law_spoilt : FnScope ["_law_thing", "_law_number", "_law_deep", "_law_at", "_law_part"] ["_law_thing", "_law_number", "_law_deep"] (defScope s__law_spoilt) := ⟨rfl, rfl, rfl, by decide +kernel, rfl, by decide +kernel, by decide +kernel⟩
abbrev sp__law_spoilt0 (K : PySem.W.Frag) : Sp := Pur3 datR intR intR datR (fun x nu deep => 0 ≤ nu ∧ deep ≤ 0 ∧ ∃ n, n ≤ 2 ∧ Pl n x) (spoilM 0)
theorem ok__law_spoilt0 {f : Addr} {fd : FuncData} (F : Fun K "_law_spoilt" "_law_spoilt" s__law_spoilt f fd) (M : Bi mg) (D__law_odd : Df P w K mg base 1 "_law_odd" ["_law_number"] (sp__law_odd K)) :
    FnOk P w K mg base CX0 2 f fd ["_law_thing", "_law_number", "_law_deep"] (sp__law_spoilt0 K) := by
  refine pure_ok3 F sc__law_spoilt rfl fun cdv A outer s H0 B0 E' x nu deep hr hp => ?_
  obtain ⟨hnu, hdeep, n, hn2, hpl⟩ := hp
  have hlen : (dItems x).length ≤ 5 := by
    cases n with
    | zero => obtain ⟨i, rfl, _⟩ := hpl; exact Nat.zero_le _
    | succ n => obtain ⟨l, rfl, h5, _⟩ := hpl; exact h5
  have hnum : isI x = true → isNm x = true ∧ (dNum x).natAbs < 2 ^ 40 := fun h => by
    cases n with
    | zero => obtain ⟨i, rfl, hi⟩ := hpl; exact ⟨rfl, hi⟩
    | succ n => obtain ⟨l, rfl, h5, _⟩ := hpl; cases h
  refine S.ifr (TW.t (TW.and (T.cmpI .gt (E.var 2 rfl) E.int) fun _ => (TW.and (T.val (E.isiD (n := "tuple") (E.var 0 rfl) (kitT _) M.isinstance M.tuple (by decide +kernel))) fun _ => (TW.and (T.cmpI .gt (E.lenT (E.tupD (E.var 0 rfl) ?_) M.len) E.int) fun _ => (TW.and1 (T.cmpI .gt (E.mod (E.var 1 rfl) E.int ?_) E.int)))))) (fun h => ?_) (fun h => ?_)
  · assumption
  · decide
  · rw [Bool.and_eq_true, Bool.and_eq_true, Bool.and_eq_true] at h
    obtain ⟨h1, h2, h3, h4⟩ := h
    have h1 : 0 < deep := of_decide_eq_true h1
    have h3 := of_decide_eq_true h3
    have h4 : 0 < nu % 6 := of_decide_eq_true h4
    have h3 : 0 < (dItems x).length := by omega

    exact absurd h1 (by omega)
  · have h' : ¬ (0 < deep ∧ isT x = true ∧ 0 < (dItems x).length ∧ 0 < nu % 6) := fun ⟨q1, q2, q3, q4⟩ => by
      rw [show decide (deep > 0) = true from decide_eq_true q1, q2, show decide (((dItems x).length : Int) > 0) = true from decide_eq_true (by omega), show decide (nu % 6 > 0) = true from decide_eq_true q4] at h
      cases h
    have hsp : spoilM 0 x nu deep = flatM x nu := spoil_z h'
    have b0 := Int.emod_nonneg (nu / 12) (show (6 : Int) ≠ 0 by decide)
    have b1 := Int.emod_lt_of_pos (nu / 12) (show (0 : Int) < 6 by decide)
    refine S.ifr (TW.t (TW.and (T.val (E.isiD (n := "tuple") (E.var 0 rfl) (kitT _) M.isinstance M.tuple (by decide +kernel))) fun _ => (TW.and (T.cmpI .gt (E.lenT (E.tupD (E.var 0 rfl) ?_) M.len) E.int) fun _ => (TW.and1 (T.cmpI .eq (E.mod (E.fdiv (E.var 1 rfl) E.int ?_) E.int ?_) E.int))))) (fun h => ?_) (fun h => ?_)
    · assumption
    · exact divP (by decide) (by decide)
    · decide
    · rw [Bool.and_eq_true, Bool.and_eq_true] at h
      obtain ⟨h2, h3, h4⟩ := h
      have h3 := of_decide_eq_true h3
      have h4 : nu / 6 % 2 = 0 := of_decide_eq_true h4
      have h3 : 0 < (dItems x).length := by omega
      refine S.ret (E.eq (E.gL PyData.none (EL.lrx (EL.lst (.cons (E.toD tdLstD (EL.cl (EL.lstT (E.tupD (E.var 0 rfl) ?_) M.list))) (.cons (E.toD tdTupD (E.slT (E.tupD (E.var 0 rfl) ?_) EO.no (EO.so (E.neg E.int)))) (.cons (E.toD tdTupD (E.catT (E.tupD (E.var 0 rfl) ?_) (E.slT (E.tupD (E.var 0 rfl) ?_) (EO.so (E.neg E.int)) EO.no) ?_)) (.cons (E.toD tdTupD (E.slT (E.tupD (E.var 0 rfl) ?_) (EO.so E.int) EO.no)) (.cons (E.toD tdTupD (E.revT (E.tupD (E.var 0 rfl) ?_))) (.cons (E.toD tdTupD (E.repT (E.tupD (E.var 0 rfl) ?_) E.int ?_ ?_)) Es.nil)))))) (by decide))) (E.mod (E.fdiv (E.var 1 rfl) E.int ?_) E.int ?_) ?_) ?_) (fun v B H o r => ⟨Ob.go _ o, r⟩)
      all_goals try exact h2
      · have : (cutA (dItems x) (some (-1)) none).length ≤ (dItems x).length := by unfold cutA; rw [List.length_take, List.length_drop]; omega
        omega
      · decide
      · exact ⟨fun z => by rw [z] at h3; exact absurd h3 (by decide), by omega⟩
      · exact divP (by decide) (by decide)
      · decide
      · exact ⟨b0, by show _ < 6; omega⟩
      · rw [hsp]
        unfold flatM
        rw [if_pos ⟨h2, h3, h4⟩]
    · have h2' : ¬ (isT x = true ∧ 0 < (dItems x).length ∧ nu / 6 % 2 = 0) := fun ⟨q2, q3, q4⟩ => by
        rw [q2, show decide (((dItems x).length : Int) > 0) = true from decide_eq_true (by omega), show decide (nu / 6 % 2 = 0) = true from decide_eq_true q4] at h
        cases h
      refine S.ifr (TW.t (TW.and (T.val (E.isiD (n := "int") (E.var 0 rfl) (kitI _) M.isinstance M.int (by decide +kernel))) fun _ => (TW.and1 (T.cmpI .eq (E.mod (E.fdiv (E.var 1 rfl) E.int ?_) E.int ?_) E.int)))) (fun h => ?_) (fun h => ?_)
      · exact divP (by decide) (by decide)
      · decide
      · rw [Bool.and_eq_true] at h
        obtain ⟨h2, h4⟩ := h
        have h4 : nu / 6 % 2 = 0 := of_decide_eq_true h4
        obtain ⟨h5, h6⟩ := hnum h2
        refine S.ret (E.eq (E.gL PyData.none (EL.lrx (EL.lst (.cons (E.strI (E.intD (E.var 0 rfl) ?_) ?_ M.str) (.cons (E.toD tdInt (E.neg (E.intD (E.var 0 rfl) ?_))) (.cons (E.toD tdInt (E.add (E.intD (E.var 0 rfl) ?_) E.int)) (.cons (E.toD tdBl (E.cmpI .eq (E.intD (E.var 0 rfl) ?_) E.int)) (.cons (E.toD tdInt (E.add (E.intD (E.var 0 rfl) ?_) E.int)) (.cons (E.toD tdInt E.int) Es.nil)))))) (by decide))) (E.mod (E.fdiv (E.var 1 rfl) E.int ?_) E.int ?_) ?_) ?_) (fun v B H o r => ⟨Ob.go _ o, r⟩)
        all_goals try exact h5
        · exact Nat.lt_of_lt_of_le h6 (Nat.pow_le_pow_right (by decide) (by decide))
        · exact divP (by decide) (by decide)
        · decide
        · exact ⟨b0, by show _ < 6; omega⟩
        · rw [hsp]
          unfold flatM
          rw [if_neg h2', if_pos ⟨h2, h4⟩]
      · have h3' : ¬ (isI x = true ∧ nu / 6 % 2 = 0) := fun ⟨q2, q4⟩ => by
          rw [q2, show decide (nu / 6 % 2 = 0) = true from decide_eq_true q4] at h
          cases h
        refine S.ret (E.eq (E.call1 D__law_odd (hr.mono (by decide)) (EA.one (E.fdiv (E.var 1 rfl) E.int ?_)) ?_) ?_) (fun v B H o r => ⟨Ob.go _ o, r⟩)
        · exact divP (by decide) (by decide)
        · trivial
        · rw [hsp]
          unfold flatM
          rw [if_neg h2', if_neg h3']

abbrev sp__law_spoilt1 (K : PySem.W.Frag) : Sp := Pur3 datR intR intR datR (fun x nu deep => 0 ≤ nu ∧ deep ≤ 1 ∧ ∃ n, n ≤ 2 ∧ Pl n x) (spoilM 1)
theorem ok__law_spoilt1 {f : Addr} {fd : FuncData} (F : Fun K "_law_spoilt" "_law_spoilt" s__law_spoilt f fd) (M : Bi mg) (D__law_spoilt0 : Df P w K mg base 2 "_law_spoilt" ["_law_thing", "_law_number", "_law_deep"] (sp__law_spoilt0 K)) (D__law_odd : Df P w K mg base 1 "_law_odd" ["_law_number"] (sp__law_odd K)) :
    FnOk P w K mg base CX0 3 f fd ["_law_thing", "_law_number", "_law_deep"] (sp__law_spoilt1 K) := by
  refine pure_ok3 F sc__law_spoilt rfl fun cdv A outer s H0 B0 E' x nu deep hr hp => ?_
  obtain ⟨hnu, hdeep, n, hn2, hpl⟩ := hp
  have hlen : (dItems x).length ≤ 5 := by
    cases n with
    | zero => obtain ⟨i, rfl, _⟩ := hpl; exact Nat.zero_le _
    | succ n => obtain ⟨l, rfl, h5, _⟩ := hpl; exact h5
  have hnum : isI x = true → isNm x = true ∧ (dNum x).natAbs < 2 ^ 40 := fun h => by
    cases n with
    | zero => obtain ⟨i, rfl, hi⟩ := hpl; exact ⟨rfl, hi⟩
    | succ n => obtain ⟨l, rfl, h5, _⟩ := hpl; cases h
  refine S.ifr (TW.t (TW.and (T.cmpI .gt (E.var 2 rfl) E.int) fun _ => (TW.and (T.val (E.isiD (n := "tuple") (E.var 0 rfl) (kitT _) M.isinstance M.tuple (by decide +kernel))) fun _ => (TW.and (T.cmpI .gt (E.lenT (E.tupD (E.var 0 rfl) ?_) M.len) E.int) fun _ => (TW.and1 (T.cmpI .gt (E.mod (E.var 1 rfl) E.int ?_) E.int)))))) (fun h => ?_) (fun h => ?_)
  · assumption
  · decide
  · rw [Bool.and_eq_true, Bool.and_eq_true, Bool.and_eq_true] at h
    obtain ⟨h1, h2, h3, h4⟩ := h
    have h1 : 0 < deep := of_decide_eq_true h1
    have h3 := of_decide_eq_true h3
    have h4 : 0 < nu % 6 := of_decide_eq_true h4
    have h3 : 0 < (dItems x).length := by omega

    have hl0 : (0 : Int) < ((dItems x).length : Int) := by omega
    have a0 := Int.emod_nonneg (nu / 6) (show ((dItems x).length : Int) ≠ 0 by omega)
    have a1 := Int.emod_lt_of_pos (nu / 6) hl0
    refine S.set 3 (E.mod (E.fdiv (E.var 1 rfl) E.int ?_) (E.lenT (E.tupD (E.var 0 rfl) ?_) M.len) ?_) sc__law_spoilt.nd ?_
    · exact divP (by decide) (by decide)
    · exact h2
    · exact hl0
    refine S.set 4 (E.call3 D__law_spoilt0 (hr.mono (by decide)) (EA.three (E.gT PyData.none (E.tupD (E.var 0 rfl) ?_) (E.var 3 rfl) ?_) (E.fdiv (E.var 1 rfl) E.int ?_) (E.sub (E.var 2 rfl) E.int)) ?_) sc__law_spoilt.nd ?_
    · exact h2
    · exact ⟨a0, by omega⟩
    · exact divP (by decide) (by decide)
    · cases n with
      | zero => obtain ⟨i, rfl, _⟩ := hpl; cases h2
      | succ n =>
        obtain ⟨l, rfl, _, hl⟩ := hpl
        refine ⟨Int.ediv_nonneg hnu (by decide), by omega, n, by omega, hl _ ?_⟩
        have a1 : nu / 6 % (l.length : Int) < (l.length : Int) := a1
        have a0 : 0 ≤ nu / 6 % (l.length : Int) := a0
        have hk : (nu / 6 % (l.length : Int)).toNat < l.length := by omega
        show l.getD (nu / 6 % (l.length : Int)).toNat .none ∈ l
        rw [List.getD_eq_getElem?_getD, List.getElem?_eq_getElem hk]
        exact List.getElem_mem hk
    have hc1 : ∀ lo hi : Option Int, (cutA (dItems x) lo hi).length ≤ (dItems x).length := fun lo hi => by unfold cutA; rw [List.length_take, List.length_drop]; omega
    refine S.ret (E.eq (E.toD tdTupD (E.catT (E.catT (E.slT (E.tupD (E.var 0 rfl) ?_) EO.no (EO.so (E.var 3 rfl))) (E.tup (.cons (E.var 4 rfl) Es.nil) (by decide)) ?_) (E.slT (E.tupD (E.var 0 rfl) ?_) (EO.so (E.add (E.var 3 rfl) E.int)) EO.no) ?_)) ?_) (fun v B H o r => ⟨Ob.go _ o, r⟩)
    all_goals try exact h2
    · have := hc1 none (some (nu / 6 % ((dItems x).length : Int)))
      show _ + 1 ≤ 10000
      omega
    · have := hc1 none (some (nu / 6 % ((dItems x).length : Int)))
      have := hc1 (some (nu / 6 % ((dItems x).length : Int) + 1)) none
      rw [List.length_append]
      show _ + 1 + _ ≤ 10000
      omega
    · exact (spoil_yes (m := 0) ⟨h1, h2, h3, h4⟩).symm

  · have h' : ¬ (0 < deep ∧ isT x = true ∧ 0 < (dItems x).length ∧ 0 < nu % 6) := fun ⟨q1, q2, q3, q4⟩ => by
      rw [show decide (deep > 0) = true from decide_eq_true q1, q2, show decide (((dItems x).length : Int) > 0) = true from decide_eq_true (by omega), show decide (nu % 6 > 0) = true from decide_eq_true q4] at h
      cases h
    have hsp : spoilM 1 x nu deep = flatM x nu := spoil_no0 h'
    have b0 := Int.emod_nonneg (nu / 12) (show (6 : Int) ≠ 0 by decide)
    have b1 := Int.emod_lt_of_pos (nu / 12) (show (0 : Int) < 6 by decide)
    refine S.ifr (TW.t (TW.and (T.val (E.isiD (n := "tuple") (E.var 0 rfl) (kitT _) M.isinstance M.tuple (by decide +kernel))) fun _ => (TW.and (T.cmpI .gt (E.lenT (E.tupD (E.var 0 rfl) ?_) M.len) E.int) fun _ => (TW.and1 (T.cmpI .eq (E.mod (E.fdiv (E.var 1 rfl) E.int ?_) E.int ?_) E.int))))) (fun h => ?_) (fun h => ?_)
    · assumption
    · exact divP (by decide) (by decide)
    · decide
    · rw [Bool.and_eq_true, Bool.and_eq_true] at h
      obtain ⟨h2, h3, h4⟩ := h
      have h3 := of_decide_eq_true h3
      have h4 : nu / 6 % 2 = 0 := of_decide_eq_true h4
      have h3 : 0 < (dItems x).length := by omega
      refine S.ret (E.eq (E.gL PyData.none (EL.lrx (EL.lst (.cons (E.toD tdLstD (EL.cl (EL.lstT (E.tupD (E.var 0 rfl) ?_) M.list))) (.cons (E.toD tdTupD (E.slT (E.tupD (E.var 0 rfl) ?_) EO.no (EO.so (E.neg E.int)))) (.cons (E.toD tdTupD (E.catT (E.tupD (E.var 0 rfl) ?_) (E.slT (E.tupD (E.var 0 rfl) ?_) (EO.so (E.neg E.int)) EO.no) ?_)) (.cons (E.toD tdTupD (E.slT (E.tupD (E.var 0 rfl) ?_) (EO.so E.int) EO.no)) (.cons (E.toD tdTupD (E.revT (E.tupD (E.var 0 rfl) ?_))) (.cons (E.toD tdTupD (E.repT (E.tupD (E.var 0 rfl) ?_) E.int ?_ ?_)) Es.nil)))))) (by decide))) (E.mod (E.fdiv (E.var 1 rfl) E.int ?_) E.int ?_) ?_) ?_) (fun v B H o r => ⟨Ob.go _ o, r⟩)
      all_goals try exact h2
      · have : (cutA (dItems x) (some (-1)) none).length ≤ (dItems x).length := by unfold cutA; rw [List.length_take, List.length_drop]; omega
        omega
      · decide
      · exact ⟨fun z => by rw [z] at h3; exact absurd h3 (by decide), by omega⟩
      · exact divP (by decide) (by decide)
      · decide
      · exact ⟨b0, by show _ < 6; omega⟩
      · rw [hsp]
        unfold flatM
        rw [if_pos ⟨h2, h3, h4⟩]
    · have h2' : ¬ (isT x = true ∧ 0 < (dItems x).length ∧ nu / 6 % 2 = 0) := fun ⟨q2, q3, q4⟩ => by
        rw [q2, show decide (((dItems x).length : Int) > 0) = true from decide_eq_true (by omega), show decide (nu / 6 % 2 = 0) = true from decide_eq_true q4] at h
        cases h
      refine S.ifr (TW.t (TW.and (T.val (E.isiD (n := "int") (E.var 0 rfl) (kitI _) M.isinstance M.int (by decide +kernel))) fun _ => (TW.and1 (T.cmpI .eq (E.mod (E.fdiv (E.var 1 rfl) E.int ?_) E.int ?_) E.int)))) (fun h => ?_) (fun h => ?_)
      · exact divP (by decide) (by decide)
      · decide
      · rw [Bool.and_eq_true] at h
        obtain ⟨h2, h4⟩ := h
        have h4 : nu / 6 % 2 = 0 := of_decide_eq_true h4
        obtain ⟨h5, h6⟩ := hnum h2
        refine S.ret (E.eq (E.gL PyData.none (EL.lrx (EL.lst (.cons (E.strI (E.intD (E.var 0 rfl) ?_) ?_ M.str) (.cons (E.toD tdInt (E.neg (E.intD (E.var 0 rfl) ?_))) (.cons (E.toD tdInt (E.add (E.intD (E.var 0 rfl) ?_) E.int)) (.cons (E.toD tdBl (E.cmpI .eq (E.intD (E.var 0 rfl) ?_) E.int)) (.cons (E.toD tdInt (E.add (E.intD (E.var 0 rfl) ?_) E.int)) (.cons (E.toD tdInt E.int) Es.nil)))))) (by decide))) (E.mod (E.fdiv (E.var 1 rfl) E.int ?_) E.int ?_) ?_) ?_) (fun v B H o r => ⟨Ob.go _ o, r⟩)
        all_goals try exact h5
        · exact Nat.lt_of_lt_of_le h6 (Nat.pow_le_pow_right (by decide) (by decide))
        · exact divP (by decide) (by decide)
        · decide
        · exact ⟨b0, by show _ < 6; omega⟩
        · rw [hsp]
          unfold flatM
          rw [if_neg h2', if_pos ⟨h2, h4⟩]
      · have h3' : ¬ (isI x = true ∧ nu / 6 % 2 = 0) := fun ⟨q2, q4⟩ => by
          rw [q2, show decide (nu / 6 % 2 = 0) = true from decide_eq_true q4] at h
          cases h
        refine S.ret (E.eq (E.call1 D__law_odd (hr.mono (by decide)) (EA.one (E.fdiv (E.var 1 rfl) E.int ?_)) ?_) ?_) (fun v B H o r => ⟨Ob.go _ o, r⟩)
        · exact divP (by decide) (by decide)
        · trivial
        · rw [hsp]
          unfold flatM
          rw [if_neg h2', if_neg h3']

abbrev sp__law_spoilt2 (K : PySem.W.Frag) : Sp := Pur3 datR intR intR datR (fun x nu deep => 0 ≤ nu ∧ deep ≤ 2 ∧ ∃ n, n ≤ 2 ∧ Pl n x) (spoilM 2)
theorem ok__law_spoilt2 {f : Addr} {fd : FuncData} (F : Fun K "_law_spoilt" "_law_spoilt" s__law_spoilt f fd) (M : Bi mg) (D__law_spoilt1 : Df P w K mg base 3 "_law_spoilt" ["_law_thing", "_law_number", "_law_deep"] (sp__law_spoilt1 K)) (D__law_odd : Df P w K mg base 1 "_law_odd" ["_law_number"] (sp__law_odd K)) :
    FnOk P w K mg base CX0 4 f fd ["_law_thing", "_law_number", "_law_deep"] (sp__law_spoilt2 K) := by
  refine pure_ok3 F sc__law_spoilt rfl fun cdv A outer s H0 B0 E' x nu deep hr hp => ?_
  obtain ⟨hnu, hdeep, n, hn2, hpl⟩ := hp
  have hlen : (dItems x).length ≤ 5 := by
    cases n with
    | zero => obtain ⟨i, rfl, _⟩ := hpl; exact Nat.zero_le _
    | succ n => obtain ⟨l, rfl, h5, _⟩ := hpl; exact h5
  have hnum : isI x = true → isNm x = true ∧ (dNum x).natAbs < 2 ^ 40 := fun h => by
    cases n with
    | zero => obtain ⟨i, rfl, hi⟩ := hpl; exact ⟨rfl, hi⟩
    | succ n => obtain ⟨l, rfl, h5, _⟩ := hpl; cases h
  refine S.ifr (TW.t (TW.and (T.cmpI .gt (E.var 2 rfl) E.int) fun _ => (TW.and (T.val (E.isiD (n := "tuple") (E.var 0 rfl) (kitT _) M.isinstance M.tuple (by decide +kernel))) fun _ => (TW.and (T.cmpI .gt (E.lenT (E.tupD (E.var 0 rfl) ?_) M.len) E.int) fun _ => (TW.and1 (T.cmpI .gt (E.mod (E.var 1 rfl) E.int ?_) E.int)))))) (fun h => ?_) (fun h => ?_)
  · assumption
  · decide
  · rw [Bool.and_eq_true, Bool.and_eq_true, Bool.and_eq_true] at h
    obtain ⟨h1, h2, h3, h4⟩ := h
    have h1 : 0 < deep := of_decide_eq_true h1
    have h3 := of_decide_eq_true h3
    have h4 : 0 < nu % 6 := of_decide_eq_true h4
    have h3 : 0 < (dItems x).length := by omega

    have hl0 : (0 : Int) < ((dItems x).length : Int) := by omega
    have a0 := Int.emod_nonneg (nu / 6) (show ((dItems x).length : Int) ≠ 0 by omega)
    have a1 := Int.emod_lt_of_pos (nu / 6) hl0
    refine S.set 3 (E.mod (E.fdiv (E.var 1 rfl) E.int ?_) (E.lenT (E.tupD (E.var 0 rfl) ?_) M.len) ?_) sc__law_spoilt.nd ?_
    · exact divP (by decide) (by decide)
    · exact h2
    · exact hl0
    refine S.set 4 (E.call3 D__law_spoilt1 (hr.mono (by decide)) (EA.three (E.gT PyData.none (E.tupD (E.var 0 rfl) ?_) (E.var 3 rfl) ?_) (E.fdiv (E.var 1 rfl) E.int ?_) (E.sub (E.var 2 rfl) E.int)) ?_) sc__law_spoilt.nd ?_
    · exact h2
    · exact ⟨a0, by omega⟩
    · exact divP (by decide) (by decide)
    · cases n with
      | zero => obtain ⟨i, rfl, _⟩ := hpl; cases h2
      | succ n =>
        obtain ⟨l, rfl, _, hl⟩ := hpl
        refine ⟨Int.ediv_nonneg hnu (by decide), by omega, n, by omega, hl _ ?_⟩
        have a1 : nu / 6 % (l.length : Int) < (l.length : Int) := a1
        have a0 : 0 ≤ nu / 6 % (l.length : Int) := a0
        have hk : (nu / 6 % (l.length : Int)).toNat < l.length := by omega
        show l.getD (nu / 6 % (l.length : Int)).toNat .none ∈ l
        rw [List.getD_eq_getElem?_getD, List.getElem?_eq_getElem hk]
        exact List.getElem_mem hk
    have hc1 : ∀ lo hi : Option Int, (cutA (dItems x) lo hi).length ≤ (dItems x).length := fun lo hi => by unfold cutA; rw [List.length_take, List.length_drop]; omega
    refine S.ret (E.eq (E.toD tdTupD (E.catT (E.catT (E.slT (E.tupD (E.var 0 rfl) ?_) EO.no (EO.so (E.var 3 rfl))) (E.tup (.cons (E.var 4 rfl) Es.nil) (by decide)) ?_) (E.slT (E.tupD (E.var 0 rfl) ?_) (EO.so (E.add (E.var 3 rfl) E.int)) EO.no) ?_)) ?_) (fun v B H o r => ⟨Ob.go _ o, r⟩)
    all_goals try exact h2
    · have := hc1 none (some (nu / 6 % ((dItems x).length : Int)))
      show _ + 1 ≤ 10000
      omega
    · have := hc1 none (some (nu / 6 % ((dItems x).length : Int)))
      have := hc1 (some (nu / 6 % ((dItems x).length : Int) + 1)) none
      rw [List.length_append]
      show _ + 1 + _ ≤ 10000
      omega
    · exact (spoil_yes (m := 1) ⟨h1, h2, h3, h4⟩).symm

  · have h' : ¬ (0 < deep ∧ isT x = true ∧ 0 < (dItems x).length ∧ 0 < nu % 6) := fun ⟨q1, q2, q3, q4⟩ => by
      rw [show decide (deep > 0) = true from decide_eq_true q1, q2, show decide (((dItems x).length : Int) > 0) = true from decide_eq_true (by omega), show decide (nu % 6 > 0) = true from decide_eq_true q4] at h
      cases h
    have hsp : spoilM 2 x nu deep = flatM x nu := spoil_no1 h'
    have b0 := Int.emod_nonneg (nu / 12) (show (6 : Int) ≠ 0 by decide)
    have b1 := Int.emod_lt_of_pos (nu / 12) (show (0 : Int) < 6 by decide)
    refine S.ifr (TW.t (TW.and (T.val (E.isiD (n := "tuple") (E.var 0 rfl) (kitT _) M.isinstance M.tuple (by decide +kernel))) fun _ => (TW.and (T.cmpI .gt (E.lenT (E.tupD (E.var 0 rfl) ?_) M.len) E.int) fun _ => (TW.and1 (T.cmpI .eq (E.mod (E.fdiv (E.var 1 rfl) E.int ?_) E.int ?_) E.int))))) (fun h => ?_) (fun h => ?_)
    · assumption
    · exact divP (by decide) (by decide)
    · decide
    · rw [Bool.and_eq_true, Bool.and_eq_true] at h
      obtain ⟨h2, h3, h4⟩ := h
      have h3 := of_decide_eq_true h3
      have h4 : nu / 6 % 2 = 0 := of_decide_eq_true h4
      have h3 : 0 < (dItems x).length := by omega
      refine S.ret (E.eq (E.gL PyData.none (EL.lrx (EL.lst (.cons (E.toD tdLstD (EL.cl (EL.lstT (E.tupD (E.var 0 rfl) ?_) M.list))) (.cons (E.toD tdTupD (E.slT (E.tupD (E.var 0 rfl) ?_) EO.no (EO.so (E.neg E.int)))) (.cons (E.toD tdTupD (E.catT (E.tupD (E.var 0 rfl) ?_) (E.slT (E.tupD (E.var 0 rfl) ?_) (EO.so (E.neg E.int)) EO.no) ?_)) (.cons (E.toD tdTupD (E.slT (E.tupD (E.var 0 rfl) ?_) (EO.so E.int) EO.no)) (.cons (E.toD tdTupD (E.revT (E.tupD (E.var 0 rfl) ?_))) (.cons (E.toD tdTupD (E.repT (E.tupD (E.var 0 rfl) ?_) E.int ?_ ?_)) Es.nil)))))) (by decide))) (E.mod (E.fdiv (E.var 1 rfl) E.int ?_) E.int ?_) ?_) ?_) (fun v B H o r => ⟨Ob.go _ o, r⟩)
      all_goals try exact h2
      · have : (cutA (dItems x) (some (-1)) none).length ≤ (dItems x).length := by unfold cutA; rw [List.length_take, List.length_drop]; omega
        omega
      · decide
      · exact ⟨fun z => by rw [z] at h3; exact absurd h3 (by decide), by omega⟩
      · exact divP (by decide) (by decide)
      · decide
      · exact ⟨b0, by show _ < 6; omega⟩
      · rw [hsp]
        unfold flatM
        rw [if_pos ⟨h2, h3, h4⟩]
    · have h2' : ¬ (isT x = true ∧ 0 < (dItems x).length ∧ nu / 6 % 2 = 0) := fun ⟨q2, q3, q4⟩ => by
        rw [q2, show decide (((dItems x).length : Int) > 0) = true from decide_eq_true (by omega), show decide (nu / 6 % 2 = 0) = true from decide_eq_true q4] at h
        cases h
      refine S.ifr (TW.t (TW.and (T.val (E.isiD (n := "int") (E.var 0 rfl) (kitI _) M.isinstance M.int (by decide +kernel))) fun _ => (TW.and1 (T.cmpI .eq (E.mod (E.fdiv (E.var 1 rfl) E.int ?_) E.int ?_) E.int)))) (fun h => ?_) (fun h => ?_)
      · exact divP (by decide) (by decide)
      · decide
      · rw [Bool.and_eq_true] at h
        obtain ⟨h2, h4⟩ := h
        have h4 : nu / 6 % 2 = 0 := of_decide_eq_true h4
        obtain ⟨h5, h6⟩ := hnum h2
        refine S.ret (E.eq (E.gL PyData.none (EL.lrx (EL.lst (.cons (E.strI (E.intD (E.var 0 rfl) ?_) ?_ M.str) (.cons (E.toD tdInt (E.neg (E.intD (E.var 0 rfl) ?_))) (.cons (E.toD tdInt (E.add (E.intD (E.var 0 rfl) ?_) E.int)) (.cons (E.toD tdBl (E.cmpI .eq (E.intD (E.var 0 rfl) ?_) E.int)) (.cons (E.toD tdInt (E.add (E.intD (E.var 0 rfl) ?_) E.int)) (.cons (E.toD tdInt E.int) Es.nil)))))) (by decide))) (E.mod (E.fdiv (E.var 1 rfl) E.int ?_) E.int ?_) ?_) ?_) (fun v B H o r => ⟨Ob.go _ o, r⟩)
        all_goals try exact h5
        · exact Nat.lt_of_lt_of_le h6 (Nat.pow_le_pow_right (by decide) (by decide))
        · exact divP (by decide) (by decide)
        · decide
        · exact ⟨b0, by show _ < 6; omega⟩
        · rw [hsp]
          unfold flatM
          rw [if_neg h2', if_pos ⟨h2, h4⟩]
      · have h3' : ¬ (isI x = true ∧ nu / 6 % 2 = 0) := fun ⟨q2, q4⟩ => by
          rw [q2, show decide (nu / 6 % 2 = 0) = true from decide_eq_true q4] at h
          cases h
        refine S.ret (E.eq (E.call1 D__law_odd (hr.mono (by decide)) (EA.one (E.fdiv (E.var 1 rfl) E.int ?_)) ?_) ?_) (fun v B H o r => ⟨Ob.go _ o, r⟩)
        · exact divP (by decide) (by decide)
        · trivial
        · rw [hsp]
          unfold flatM
          rw [if_neg h2', if_neg h3']


abbrev s_law : Stmt := topS 20
theorem sc_law : FnScope ["_law_script", "_law_rows_here", "_law_number", "_law_thing", "_law_last", "_law_left", "_law_right", "_law_more", "_law_k", "_law_at", "_law_great", "_law_found", "_law_row_here"] ["_law_script"] (defScope s_law) := ⟨rfl, rfl, rfl, by decide +kernel, rfl, by decide +kernel, by decide +kernel⟩
abbrev sp_law (K : PySem.W.Frag) : Sp := Pur1 (scrR K) blR Scr (fun _ => true)
theorem ok_law {f : Addr} {fd : FuncData} (F : Fun K "law" "law" s_law f fd) (M : Bi mg) (D__law_mixed : Df P w K mg base 2 "_law_mixed" ["_law_script", "_law_k"] (sp__law_mixed K)) (D__law_row : Df P w K mg base 2 "_law_row" ["_law_number", "_law_wide", "_law_high"] (sp__law_row K)) (D__law_rows : Df P w K mg base 3 "_law_rows" ["_law_number", "_law_most"] (sp__law_rows K)) (D__law_spoilt2 : Df P w K mg base 4 "_law_spoilt" ["_law_thing", "_law_number", "_law_deep"] (sp__law_spoilt2 K)) (D__law_are_rows : Df P w K mg base 3 "_law_are_rows" ["_law_thing"] (sp__law_are_rows K)) (D_are_rows : Df P w K mg base 3 "are_rows" ["thing"] (sp_are_rows K)) :
    FnOk P w K mg base CX0 5 f fd ["_law_script"] (sp_law K) := by
  refine pure_ok1 F sc_law rfl fun cdv A outer s H0 B0 E' ns hr hp => ?_
  obtain ⟨hns, hbits⟩ := hp
  have m0 := mixed_nn ns 0
  have m1 := mixed_nn ns 1
  have m2 := mixed_nn ns 2
  obtain ⟨rows, hrows⟩ : ∃ rows, rowsM (mixed ns 0) 4 = rows := ⟨_, rfl⟩
  have hg : Good rows := hrows ▸ rowsM_good m0.1 (by decide) (by decide)
  obtain ⟨hn0, hn4, ⟨wd, hw0, hw5, hrs⟩, _⟩ := hg
  obtain ⟨nu, hnu⟩ : ∃ nu, mixed ns 1 = nu := ⟨_, rfl⟩
  have hnu0 : 0 ≤ nu := hnu ▸ m1.1
  have hr0 := hrs.row hn0
  refine S.set 1 (E.eq (E.call2 D__law_rows (hr.mono (by decide)) (EA.two (E.call2 D__law_mixed (hr.mono (by decide)) (EA.two (E.var 0 rfl) E.int) ?_) E.int) ?_) hrows) sc_law.nd ?_
  · show (0 : Int) ≤ 0
    decide
  · exact ⟨m0.1, by decide, by decide⟩
  refine S.set 2 (E.eq (E.call2 D__law_mixed (hr.mono (by decide)) (EA.two (E.var 0 rfl) E.int) ?_) hnu) sc_law.nd ?_
  · show (0 : Int) ≤ 1
    decide
  refine S.set 3 (E.eq (E.toD (tdTup (tdTup tdInt)) (E.var 1 rfl)) (rfl : _ = tabD rows)) sc_law.nd ?_
  have hcut : ∀ (lo hi : Option Int), (cutA rows lo hi).length ≤ rows.length := fun lo hi => by unfold cutA; rw [List.length_take, List.length_drop]; omega
  refine S.ifn (ι := PyData) (Wf 60) (fun _ => bo B0 H0) (fun u => [some ⟨scrR K, ns⟩, some ⟨tupR (tupR intR), rows⟩, some ⟨intR, nu⟩, some ⟨datR, u⟩, none, none, none, none, none, none, none, none, none]) (T.cmpI .eq (E.mod (E.var 2 rfl) E.int ?_) E.int) (fun h => ?_) (fun h => ⟨_, (tab_wf rows).le (by decide), (by repeat (first | exact trivial | refine ⟨by first | exact .inl rfl | exact .inr rfl, ?_⟩)), fun _ _ h => h⟩) (fun u hu => ?_)
  · decide
  · have d0 := Int.emod_nonneg (nu / 2) (show (3 : Int) ≠ 0 by decide)
    have d1 := Int.emod_lt_of_pos (nu / 2) (show (0 : Int) < 3 by decide)
    refine S.set 3 (E.call3 D__law_spoilt2 (hr.mono (by decide)) (EA.three (E.toD (tdTup (tdTup tdInt)) (E.var 1 rfl)) (E.call2 D__law_mixed (hr.mono (by decide)) (EA.two (E.var 0 rfl) E.int) ?_) (E.mod (E.fdiv (E.var 2 rfl) E.int ?_) E.int ?_)) ?_) sc_law.nd ?_
    · show (0 : Int) ≤ 2
      decide
    · exact divP (by decide) (by decide)
    · decide
    · exact ⟨m2.1, by omega, 2, Nat.le_refl _, tab_pl hrs (by omega) (by omega)⟩
    · exact S.end' (ι := PyData) _ ((spoil_wf 2 (tab_pl hrs (by omega) (by omega)) _ _).le (by decide)) (by repeat (first | exact trivial | refine ⟨by first | exact .inl rfl | exact .inr rfl, ?_⟩)) (fun _ _ h => h)
  refine S.ifn (ι := PyData) (Wf 60) (fun _ => bo B0 H0) (fun u => [some ⟨scrR K, ns⟩, some ⟨tupR (tupR intR), rows⟩, some ⟨intR, nu⟩, some ⟨datR, u⟩, none, none, none, none, none, none, none, none, none]) (TW.t (TW.and (T.cmpI .eq (E.mod (E.fdiv (E.var 2 rfl) E.int ?_) E.int ?_) E.int) fun _ => (TW.and1 (T.cmpI .gt (E.lenT (E.var 1 rfl) M.len) E.int)))) (fun h => ?_) (fun h => ⟨_, hu, (by repeat (first | exact trivial | refine ⟨by first | exact .inl rfl | exact .inr rfl, ?_⟩)), fun _ _ h => h⟩) (fun u hu => ?_)
  · exact divP (by decide) (by decide)
  · decide
  · rw [Bool.and_eq_true] at h
    have h1 : (rows.length : Int) > 1 := of_decide_eq_true h.2
    have h1 : 1 < rows.length := by omega
    have hr2 := hrs.row (show rows.length - 2 < rows.length by omega)
    refine S.setC 4 (CL.comp _ rfl sc_law.nd (IT.zipT (E.gT [] (E.var 1 rfl) E.int ?_) (E.nT [] 2 (E.var 1 rfl) ?_) ?_ M.zip) (fun _ _ _ => trivial) (blkOk_by (own := [("_law_left", 5), ("_law_right", 6)]) (N := ["_law_script", "_law_rows_here", "_law_number", "_law_thing", "_law_last", "_law_left", "_law_right", "_law_more", "_law_k", "_law_at", "_law_great", "_law_found", "_law_row_here"]) (sc := defScope s_law) (by decide +kernel)) (fun p => (Tg.pair 5 6 rfl sc_law.nd)) (by decide) ?_ (fun p x hx => (E.add (E.var 5 rfl) (E.mul (E.sub (E.mod (E.fdiv (E.var 2 rfl) E.int ?_) E.int ?_) E.int) (E.var 6 rfl) ?_)))) sc_law.nd ?_ (sw_true rfl rfl rfl (by decide +kernel))
    · exact ⟨by decide, by show 0 < _; exact hn0⟩
    · exact ⟨by decide, by omega⟩
    · exact hr0.1.trans hr2.1.symm
    · show ((rows.getD 0 []).zip (rows.getD (rows.length - 2) [])).length ≤ 10000
      rw [zip_len (hr0.1.trans hr2.1.symm), hr0.1]
      omega
    · exact divP (by decide) (by decide)
    · decide
    · refine mulR ?_
      have := hr2.2 _ (List.of_mem_zip hx).2
      omega
    refine S.set 3 (E.eq (E.toD (tdTup (tdTup tdInt)) (E.catT (E.slT (E.var 1 rfl) EO.no (EO.so (E.neg E.int))) (E.tup (.cons (E.tupL (E.var 4 rfl) M.tuple) Es.nil) (by decide)) ?_)) (rfl : _ = tabD _)) sc_law.nd ?_
    · have := hcut none (some (-1))
      show _ + 1 ≤ 10000
      omega
    · exact S.end' (ι := PyData) _ ((tab_wf _).le (by decide)) (by repeat (first | exact trivial | refine ⟨by first | exact .inl rfl | exact .inr rfl, ?_⟩)) (fun _ _ h => h)
  refine S.ifn (ι := PyData) (Wf 60) (fun _ => bo B0 H0) (fun u => [some ⟨scrR K, ns⟩, some ⟨tupR (tupR intR), rows⟩, some ⟨intR, nu⟩, some ⟨datR, u⟩, none, none, none, none, none, none, none, none, none]) (TW.t (TW.and (T.cmpI .eq (E.mod (E.fdiv (E.var 2 rfl) E.int ?_) E.int ?_) E.int) fun _ => (TW.and1 (T.cmpI .lt (E.lenT (E.gT [] (E.var 1 rfl) E.int ?_) M.len) E.int)))) (fun h => ?_) (fun h => ⟨_, hu, (by repeat (first | exact trivial | refine ⟨by first | exact .inl rfl | exact .inr rfl, ?_⟩)), fun _ _ h => h⟩) (fun u hu => ?_)
  · exact divP (by decide) (by decide)
  · decide
  · exact ⟨by decide, by show 0 < _; exact hn0⟩
  · refine S.set 7 (EL.cl (CL.el (CL.comp _ rfl sc_law.nd (IT.rng1 (E.sub E.int (E.lenT (E.var 1 rfl) M.len)) ?_ ?_ M.range) (fun _ _ _ => trivial) (blkOk_by (own := [("_law_k", 8)]) (N := ["_law_script", "_law_rows_here", "_law_number", "_law_thing", "_law_last", "_law_left", "_law_right", "_law_more", "_law_k", "_law_at", "_law_great", "_law_found", "_law_row_here"]) (sc := defScope s_law) (by decide +kernel)) (fun p => (Tg.name 8 sc_law.nd)) (by decide) ?_ (fun p x hx => (E.tupL (E.call3 D__law_row (hr.mono (by decide)) (EA.three (E.add (E.fdiv (E.var 2 rfl) E.int ?_) (E.var 8 rfl)) (E.lenT (E.gT [] (E.var 1 rfl) E.int ?_) M.len) E.int) ?_) M.tuple))))) sc_law.nd ?_ (hs := sw_cell (by rfl))
    · omega
    · omega
    · rw [rgI_len]
      omega
    · exact divP (by decide) (by decide)
    · exact ⟨by decide, by show 0 < _; exact hn0⟩
    · have e : ((rows.getD 0 []).length) = wd := hr0.1
      show (0 : Int) ≤ ((rows.getD 0 []).length : Int) ∧ ((rows.getD 0 []).length : Int) ≤ 1000 ∧ _
      rw [e]
      exact ⟨by omega, by omega, by decide, by decide⟩
    refine S.set 3 (E.eq (E.toD (tdTup (tdTup tdInt)) (E.catT (E.var 1 rfl) (E.tupL (EL.cl (EL.sl (E.lr (E.var 7 rfl)) EO.no (EO.so (E.add E.int (E.mod (E.fdiv (E.var 2 rfl) E.int ?_) E.int ?_))))) M.tuple) ?_)) (rfl : _ = tabD _)) sc_law.nd ?_
    · exact divP (by decide) (by decide)
    · decide
    · have hc : ∀ (l : Tb) (lo hi : Option Int), (cutA l lo hi).length ≤ l.length := fun l lo hi => by unfold cutA; rw [List.length_take, List.length_drop]; omega
      have q : (5 - (rows.length : Int)).toNat ≤ 5 := by omega
      refine Nat.le_trans (Nat.add_le_add_left (Nat.le_trans (hc _ _ _) (by rw [List.length_map, rgI_len]; exact q)) _) ?_
      omega
    · exact S.end' (ι := PyData) _ ((tab_wf _).le (by decide)) (by repeat (first | exact trivial | refine ⟨by first | exact .inl rfl | exact .inr rfl, ?_⟩)) (fun _ _ h => h)
  refine S.ifn (ι := PyData) (Wf 60) (fun _ => bo B0 H0) (fun u => [some ⟨scrR K, ns⟩, some ⟨tupR (tupR intR), rows⟩, some ⟨intR, nu⟩, some ⟨datR, u⟩, none, none, none, none, none, none, none, none, none]) (T.cmpI .eq (E.mod (E.fdiv (E.var 2 rfl) E.int ?_) E.int ?_) E.int) (fun h => ?_) (fun h => ⟨_, hu, (by repeat (first | exact trivial | refine ⟨by first | exact .inl rfl | exact .inr rfl, ?_⟩)), fun _ _ h => h⟩) (fun u hu => ?_)
  · exact divP (by decide) (by decide)
  · decide
  · have hl0 : (0 : Int) < (rows.length : Int) := by omega
    have a0 := Int.emod_nonneg (nu / 24) (show (rows.length : Int) ≠ 0 by omega)
    have a1 := Int.emod_lt_of_pos (nu / 24) hl0
    have g0 := Int.emod_nonneg (nu / 96) (show (4 : Int) ≠ 0 by decide)
    have g1 := Int.emod_lt_of_pos (nu / 96) (show (0 : Int) < 4 by decide)
    obtain ⟨at', hat⟩ : ∃ at', nu / 24 % (rows.length : Int) = at' := ⟨_, rfl⟩
    rw [hat] at a0 a1
    refine S.set 9 (E.eq (E.mod (E.fdiv (E.var 2 rfl) E.int ?_) (E.lenT (E.var 1 rfl) M.len) ?_) hat) sc_law.nd ?_
    · exact divP (by decide) (by decide)
    · exact hl0
    refine S.set 10 (E.gT (0 : Int) (E.tup (.cons E.int (.cons E.int (.cons (E.neg E.int) (.cons (E.neg E.int) Es.nil)))) (by decide)) (E.mod (E.fdiv (E.var 2 rfl) E.int ?_) E.int ?_) ?_) sc_law.nd ?_
    · exact divP (by decide) (by decide)
    · decide
    · exact ⟨g0, by show _ < 4; omega⟩
    have hra := hrs.row (show at'.toNat < rows.length by omega)
    refine S.set 3 (E.eq (E.toD (tdTup (tdTup tdInt)) (E.catT (E.catT (E.slT (E.var 1 rfl) EO.no (EO.so (E.var 9 rfl))) (E.tup (.cons (E.catT (E.slT (E.gT [] (E.var 1 rfl) (E.var 9 rfl) ?_) EO.no (EO.so (E.neg E.int))) (E.tup (.cons (E.var 10 rfl) Es.nil) (by decide)) ?_) Es.nil) (by decide)) ?_) (E.slT (E.var 1 rfl) (EO.so (E.add (E.var 9 rfl) E.int)) EO.no) ?_)) (rfl : _ = tabD _)) sc_law.nd ?_
    · exact ⟨a0, by omega⟩
    · have : (cutA (rows.getD at'.toNat []) none (some (-1))).length ≤ (rows.getD at'.toNat []).length := by unfold cutA; rw [List.length_take, List.length_drop]; omega
      show _ + 1 ≤ 10000
      omega
    · have := hcut none (some at')
      show _ + 1 ≤ 10000
      omega
    · have := hcut none (some at')
      have := hcut (some (at' + 1)) none
      rw [List.length_append]
      show _ + 1 + _ ≤ 10000
      omega
    · exact S.end' (ι := PyData) _ ((tab_wf _).le (by decide)) (by repeat (first | exact trivial | refine ⟨by first | exact .inl rfl | exact .inr rfl, ?_⟩)) (fun _ _ h => h)
  refine S.ifn (ι := PyData) (Wf 60) (fun _ => bo B0 H0) (fun u => [some ⟨scrR K, ns⟩, some ⟨tupR (tupR intR), rows⟩, some ⟨intR, nu⟩, some ⟨datR, u⟩, none, none, none, none, none, none, none, none, none]) (T.cmpI .eq (E.mod (E.fdiv (E.var 2 rfl) E.int ?_) E.int ?_) E.int) (fun h => ?_) (fun h => ⟨_, hu, (by repeat (first | exact trivial | refine ⟨by first | exact .inl rfl | exact .inr rfl, ?_⟩)), fun _ _ h => h⟩) (fun u hu => ?_)
  · exact divP (by decide) (by decide)
  · decide
  · have c0 := Int.emod_nonneg (nu / 1920) (show (2 : Int) ≠ 0 by decide)
    have c1 := Int.emod_lt_of_pos (nu / 1920) (show (0 : Int) < 2 by decide)
    obtain ⟨more, hmore⟩ : ∃ more, 5 + nu / 1920 % 2 - ((rows.getD 0 []).length : Int) = more := ⟨_, rfl⟩
    have hm : 0 ≤ more ∧ more ≤ 6 := by
      have e : (rows.getD 0 []).length = wd := hr0.1
      omega
    refine S.set 7 (E.eq (E.sub (E.add E.int (E.mod (E.fdiv (E.var 2 rfl) E.int ?_) E.int ?_)) (E.lenT (E.gT [] (E.var 1 rfl) E.int ?_) M.len)) hmore) sc_law.nd ?_
    · exact divP (by decide) (by decide)
    · decide
    · exact ⟨by decide, by show 0 < _; exact hn0⟩
    refine S.set 3 (E.eq (E.toD (tdTup (tdTup tdInt)) (E.tupL (EL.cl (CL.el (CL.comp _ rfl sc_law.nd (IT.tup (E.var 1 rfl)) (fun _ _ _ => trivial) (blkOk_by (own := [("_law_row_here", 12)]) (N := ["_law_script", "_law_rows_here", "_law_number", "_law_thing", "_law_last", "_law_left", "_law_right", "_law_more", "_law_k", "_law_at", "_law_great", "_law_found", "_law_row_here"]) (sc := defScope s_law) (by decide +kernel)) (fun p => (Tg.name 12 sc_law.nd)) (by decide) ?_ (fun p x hx => (E.catT (E.var 12 rfl) (E.repT (E.tup (.cons E.int Es.nil) (by decide)) (E.var 7 rfl) ?_ ?_) ?_))))) M.tuple)) (rfl : _ = tabD _)) sc_law.nd ?_
    · omega
    · omega
    · exact ⟨by simp, by show 1 ≤ 1000; decide⟩
    · rw [rep_one, List.length_replicate]
      have := hrs.wid _ hx
      omega
    · exact S.end' (ι := PyData) _ ((tab_wf _).le (by decide)) (by repeat (first | exact trivial | refine ⟨by first | exact .inl rfl | exact .inr rfl, ?_⟩)) (fun _ _ h => h)
  refine S.ifn (ι := PyData) (Wf 60) (fun _ => bo B0 H0) (fun u => [some ⟨scrR K, ns⟩, some ⟨tupR (tupR intR), rows⟩, some ⟨intR, nu⟩, some ⟨datR, u⟩, none, none, none, none, none, none, none, none, none]) (T.cmpI .eq (E.mod (E.fdiv (E.var 2 rfl) E.int ?_) E.int ?_) E.int) (fun h => ?_) (fun h => ⟨_, hu, (by repeat (first | exact trivial | refine ⟨by first | exact .inl rfl | exact .inr rfl, ?_⟩)), fun _ _ h => h⟩) (fun u hu => ?_)
  · exact divP (by decide) (by decide)
  · decide
  · have c0 := Int.emod_nonneg (nu / 26880) (show (2 : Int) ≠ 0 by decide)
    have c1 := Int.emod_lt_of_pos (nu / 26880) (show (0 : Int) < 2 by decide)
    refine S.set 3 (E.eq (E.toD (tdTup (tdTup tdInt)) (E.tupL (EL.cl (CL.el (CL.comp _ rfl sc_law.nd (IT.rng1 (E.add E.int (E.mod (E.fdiv (E.var 2 rfl) E.int ?_) E.int ?_)) ?_ ?_ M.range) (fun _ _ _ => trivial) (blkOk_by (own := [("_law_k", 8)]) (N := ["_law_script", "_law_rows_here", "_law_number", "_law_thing", "_law_last", "_law_left", "_law_right", "_law_more", "_law_k", "_law_at", "_law_great", "_law_found", "_law_row_here"]) (sc := defScope s_law) (by decide +kernel)) (fun p => (Tg.name 8 sc_law.nd)) (by decide) ?_ (fun p x hx => (E.catT (E.catT (E.repT (E.tup (.cons E.int Es.nil) (by decide)) (E.var 8 rfl) ?_ ?_) (E.tup (.cons (E.add E.int (E.var 8 rfl)) Es.nil) (by decide)) ?_) (E.repT (E.tup (.cons (E.var 8 rfl) Es.nil) (by decide)) (E.sub E.int (E.var 8 rfl)) ?_ ?_) ?_))))) M.tuple)) (rfl : _ = tabD _)) sc_law.nd ?_
    · exact divP (by decide) (by decide)
    · decide
    · omega
    · omega
    · rw [rgI_len]
      omega
    all_goals try (have hxr := List.mem_iff_getElem?.mp hx; obtain ⟨q, hq⟩ := hxr; have hxi := rgI_get hq)
    · omega
    · exact ⟨by simp, by show 1 ≤ 1000; decide⟩
    · rw [rep_one, List.length_replicate]
      show _ + 1 ≤ 10000
      omega
    · omega
    · exact ⟨by simp, by show 1 ≤ 1000; decide⟩
    · rw [List.length_append, rep_one, rep_one, List.length_replicate, List.length_replicate]
      show _ + 1 + _ ≤ 10000
      omega
    · exact S.end' (ι := PyData) _ ((tab_wf _).le (by decide)) (by repeat (first | exact trivial | refine ⟨by first | exact .inl rfl | exact .inr rfl, ?_⟩)) (fun _ _ h => h)
  refine S.set 11 (E.call1 D_are_rows (hr.mono (by decide)) (EA.one (E.var 3 rfl)) ?_) sc_law.nd ?_
  · trivial
  refine S.ret (E.eq (E.and (E.isi (n := "bool") (k := true) tyBl (E.var 11 rfl) (by decide +kernel) M.isinstance M.bool (by decide +kernel)) fun _ => (E.one (E.eqD ddBl hr (E.var 11 rfl) (E.call1 D__law_are_rows (hr.mono (by decide)) (EA.one (E.var 3 rfl)) ?_)))) ?_) (fun v B H o r => ⟨Ob.go _ o, r⟩)
  · exact hu
  · rw [are_same]
    simp
end
theorem walk {l : PySem.W.OpenLaw} {q : Program} {loose : List Str} {XP : (Str → Option Value) → Heap → Prop} {YP : World → Heap → Prop} {d : DefRec} {K : PySem.Params → PySem.W.Frag} {k : Nat} (hn : l.most = some 63) (hdf : d.params.defaults = []) (hr : Room k callerA)
    (hY : ∀ (w : World) (h : Heap), YP w h → (K w.params).In h)
    (F : ∀ (w : World) (mg : Str → Option Value) (fa : Addr) (h : Heap), (K w.params).In h → h.Ns mainGlobals mg → mg d.name = some (.ref fa) →
      ∃ fd : FuncData, (∀ (s : Shared) (u : Value), BindsTo s fd ⟨[u], []⟩ [("_law_script", u)]) ∧ ∀ base : Heap, (K w.params).In base → base.Ns mainGlobals mg → FnOk l.prog w (K w.params) mg base CX0 k fa fd ["_law_script"] (Pur1 (scrR (K w.params)) blR Scr (fun _ => true))) :
    PySem.W.WalkO q loose XP YP l.row.toRowW d [] (fun f vs => PySem.call f vs) :=
  L2.walk_ofB (n := 63) (k := k) (x := "_law_script") (CX := fun _ => CX0) (sp := fun w => Pur1 (scrR (K w.params)) blR Scr (fun _ => true)) hn (by decide) hdf hr hY F
    (fun w H a ns hl hb _ hS => ⟨H, ns, .refl _, ⟨.ref a, rfl, a, rfl, hS⟩, ⟨hl, hb⟩, fun v B' H' _ r => r⟩) fun _ _ _ _ _ z => z
theorem all_mk {l : PySem.W.OpenLaw} {w : World} {K : PySem.W.Frag} {h : Heap} {mg : Str → Option Value} {fa f1 f2 f3 f4 f5 f6 f7 f8 f9 f10 f11 f12 f13 f14 f15 f16 : Addr} (X : K.In h) (G : h.Ns mainGlobals mg) (hfa : mg "law" = some (.ref fa))
    {od1 an1 : Option Addr} {sl1 : Array (Option Value)} {oc1 kV1 dc1 pm1 cd1 ct1 : Value}
    (a1 : PySem.W.nsIn K mainGlobals "_law_cell_at" = some (some (.ref f1))) (l1 : K.lookup f1 = some ⟨oc1, od1, .func (PySem.W.fnOf "_law_cell_at" "_law_cell_at" (defArgs s__law_cell_at) (defBody s__law_cell_at) (defScope s__law_cell_at) .none kV1 dc1 pm1 an1 cd1 ct1), sl1⟩) (c1 : PySem.W.codeIn K cd1 "_law_cell_at" = true) (k1 : PySem.W.keepIn K (.ref f1) = true)
    {od2 an2 : Option Addr} {sl2 : Array (Option Value)} {oc2 kV2 dc2 pm2 cd2 ct2 : Value}
    (a2 : PySem.W.nsIn K mainGlobals "_law_mixed" = some (some (.ref f2))) (l2 : K.lookup f2 = some ⟨oc2, od2, .func (PySem.W.fnOf "_law_mixed" "_law_mixed" (defArgs s__law_mixed) (defBody s__law_mixed) (defScope s__law_mixed) .none kV2 dc2 pm2 an2 cd2 ct2), sl2⟩) (c2 : PySem.W.codeIn K cd2 "_law_mixed" = true) (k2 : PySem.W.keepIn K (.ref f2) = true)
    {od3 an3 : Option Addr} {sl3 : Array (Option Value)} {oc3 kV3 dc3 pm3 cd3 ct3 : Value}
    (a3 : PySem.W.nsIn K mainGlobals "_law_drawn" = some (some (.ref f3))) (l3 : K.lookup f3 = some ⟨oc3, od3, .func (PySem.W.fnOf "_law_drawn" "_law_drawn" (defArgs s__law_drawn) (defBody s__law_drawn) (defScope s__law_drawn) .none kV3 dc3 pm3 an3 cd3 ct3), sl3⟩) (c3 : PySem.W.codeIn K cd3 "_law_drawn" = true) (k3 : PySem.W.keepIn K (.ref f3) = true)
    {od4 an4 : Option Addr} {sl4 : Array (Option Value)} {oc4 kV4 dc4 pm4 cd4 ct4 : Value}
    (a4 : PySem.W.nsIn K mainGlobals "_law_product" = some (some (.ref f4))) (l4 : K.lookup f4 = some ⟨oc4, od4, .func (PySem.W.fnOf "_law_product" "_law_product" (defArgs s__law_product) (defBody s__law_product) (defScope s__law_product) .none kV4 dc4 pm4 an4 cd4 ct4), sl4⟩) (c4 : PySem.W.codeIn K cd4 "_law_product" = true) (k4 : PySem.W.keepIn K (.ref f4) = true)
    {od5 an5 : Option Addr} {sl5 : Array (Option Value)} {oc5 kV5 dc5 pm5 cd5 ct5 : Value}
    (a5 : PySem.W.nsIn K mainGlobals "_law_volume" = some (some (.ref f5))) (l5 : K.lookup f5 = some ⟨oc5, od5, .func (PySem.W.fnOf "_law_volume" "_law_volume" (defArgs s__law_volume) (defBody s__law_volume) (defScope s__law_volume) .none kV5 dc5 pm5 an5 cd5 ct5), sl5⟩) (c5 : PySem.W.codeIn K cd5 "_law_volume" = true) (k5 : PySem.W.keepIn K (.ref f5) = true)
    {od6 an6 : Option Addr} {sl6 : Array (Option Value)} {oc6 kV6 dc6 pm6 cd6 ct6 : Value}
    (a6 : PySem.W.nsIn K mainGlobals "_law_row" = some (some (.ref f6))) (l6 : K.lookup f6 = some ⟨oc6, od6, .func (PySem.W.fnOf "_law_row" "_law_row" (defArgs s__law_row) (defBody s__law_row) (defScope s__law_row) .none kV6 dc6 pm6 an6 cd6 ct6), sl6⟩) (c6 : PySem.W.codeIn K cd6 "_law_row" = true) (k6 : PySem.W.keepIn K (.ref f6) = true)
    {od7 an7 : Option Addr} {sl7 : Array (Option Value)} {oc7 kV7 dc7 pm7 cd7 ct7 : Value}
    (a7 : PySem.W.nsIn K mainGlobals "_law_skewed" = some (some (.ref f7))) (l7 : K.lookup f7 = some ⟨oc7, od7, .func (PySem.W.fnOf "_law_skewed" "_law_skewed" (defArgs s__law_skewed) (defBody s__law_skewed) (defScope s__law_skewed) .none kV7 dc7 pm7 an7 cd7 ct7), sl7⟩) (c7 : PySem.W.codeIn K cd7 "_law_skewed" = true) (k7 : PySem.W.keepIn K (.ref f7) = true)
    {od8 an8 : Option Addr} {sl8 : Array (Option Value)} {oc8 kV8 dc8 pm8 cd8 ct8 : Value}
    (a8 : PySem.W.nsIn K mainGlobals "_law_rows" = some (some (.ref f8))) (l8 : K.lookup f8 = some ⟨oc8, od8, .func (PySem.W.fnOf "_law_rows" "_law_rows" (defArgs s__law_rows) (defBody s__law_rows) (defScope s__law_rows) .none kV8 dc8 pm8 an8 cd8 ct8), sl8⟩) (c8 : PySem.W.codeIn K cd8 "_law_rows" = true) (k8 : PySem.W.keepIn K (.ref f8) = true)
    {od9 an9 : Option Addr} {sl9 : Array (Option Value)} {oc9 kV9 dc9 pm9 cd9 ct9 : Value}
    (a9 : PySem.W.nsIn K mainGlobals "product" = some (some (.ref f9))) (l9 : K.lookup f9 = some ⟨oc9, od9, .func (PySem.W.fnOf "product" "product" (defArgs s_product) (defBody s_product) (defScope s_product) .none kV9 dc9 pm9 an9 cd9 ct9), sl9⟩) (c9 : PySem.W.codeIn K cd9 "product" = true) (k9 : PySem.W.keepIn K (.ref f9) = true)
    {od10 an10 : Option Addr} {sl10 : Array (Option Value)} {oc10 kV10 dc10 pm10 cd10 ct10 : Value}
    (a10 : PySem.W.nsIn K mainGlobals "volume" = some (some (.ref f10))) (l10 : K.lookup f10 = some ⟨oc10, od10, .func (PySem.W.fnOf "volume" "volume" (defArgs s_volume) (defBody s_volume) (defScope s_volume) .none kV10 dc10 pm10 an10 cd10 ct10), sl10⟩) (c10 : PySem.W.codeIn K cd10 "volume" = true) (k10 : PySem.W.keepIn K (.ref f10) = true)
    {od11 an11 : Option Addr} {sl11 : Array (Option Value)} {oc11 kV11 dc11 pm11 cd11 ct11 : Value}
    (a11 : PySem.W.nsIn K mainGlobals "is_row" = some (some (.ref f11))) (l11 : K.lookup f11 = some ⟨oc11, od11, .func (PySem.W.fnOf "is_row" "is_row" (defArgs s_is_row) (defBody s_is_row) (defScope s_is_row) .none kV11 dc11 pm11 an11 cd11 ct11), sl11⟩) (c11 : PySem.W.codeIn K cd11 "is_row" = true) (k11 : PySem.W.keepIn K (.ref f11) = true)
    {od12 an12 : Option Addr} {sl12 : Array (Option Value)} {oc12 kV12 dc12 pm12 cd12 ct12 : Value}
    (a12 : PySem.W.nsIn K mainGlobals "are_rows" = some (some (.ref f12))) (l12 : K.lookup f12 = some ⟨oc12, od12, .func (PySem.W.fnOf "are_rows" "are_rows" (defArgs s_are_rows) (defBody s_are_rows) (defScope s_are_rows) .none kV12 dc12 pm12 an12 cd12 ct12), sl12⟩) (c12 : PySem.W.codeIn K cd12 "are_rows" = true) (k12 : PySem.W.keepIn K (.ref f12) = true)
    {od13 an13 : Option Addr} {sl13 : Array (Option Value)} {oc13 kV13 dc13 pm13 cd13 ct13 : Value}
    (a13 : PySem.W.nsIn K mainGlobals "_law_are_rows" = some (some (.ref f13))) (l13 : K.lookup f13 = some ⟨oc13, od13, .func (PySem.W.fnOf "_law_are_rows" "_law_are_rows" (defArgs s__law_are_rows) (defBody s__law_are_rows) (defScope s__law_are_rows) .none kV13 dc13 pm13 an13 cd13 ct13), sl13⟩) (c13 : PySem.W.codeIn K cd13 "_law_are_rows" = true) (k13 : PySem.W.keepIn K (.ref f13) = true)
    {od14 an14 : Option Addr} {sl14 : Array (Option Value)} {oc14 kV14 dc14 pm14 cd14 ct14 : Value}
    (a14 : PySem.W.nsIn K mainGlobals "_law_odd" = some (some (.ref f14))) (l14 : K.lookup f14 = some ⟨oc14, od14, .func (PySem.W.fnOf "_law_odd" "_law_odd" (defArgs s__law_odd) (defBody s__law_odd) (defScope s__law_odd) .none kV14 dc14 pm14 an14 cd14 ct14), sl14⟩) (c14 : PySem.W.codeIn K cd14 "_law_odd" = true) (k14 : PySem.W.keepIn K (.ref f14) = true)
    {od15 an15 : Option Addr} {sl15 : Array (Option Value)} {oc15 kV15 dc15 pm15 cd15 ct15 : Value}
    (a15 : PySem.W.nsIn K mainGlobals "_law_spoilt" = some (some (.ref f15))) (l15 : K.lookup f15 = some ⟨oc15, od15, .func (PySem.W.fnOf "_law_spoilt" "_law_spoilt" (defArgs s__law_spoilt) (defBody s__law_spoilt) (defScope s__law_spoilt) .none kV15 dc15 pm15 an15 cd15 ct15), sl15⟩) (c15 : PySem.W.codeIn K cd15 "_law_spoilt" = true) (k15 : PySem.W.keepIn K (.ref f15) = true)
    {od16 an16 : Option Addr} {sl16 : Array (Option Value)} {oc16 kV16 dc16 pm16 cd16 ct16 : Value}
    (a16 : PySem.W.nsIn K mainGlobals "law" = some (some (.ref f16))) (l16 : K.lookup f16 = some ⟨oc16, od16, .func (PySem.W.fnOf "law" "law" (defArgs s_law) (defBody s_law) (defScope s_law) .none kV16 dc16 pm16 an16 cd16 ct16), sl16⟩) (c16 : PySem.W.codeIn K cd16 "law" = true) (k16 : PySem.W.keepIn K (.ref f16) = true)
    {tk1 tk2 tk3 : Tok}
    (qMOST : PySem.W.nsIn K mainGlobals "MOST" = some (some (.int 4 tk1)))
    (qWIDEST : PySem.W.nsIn K mainGlobals "WIDEST" = some (some (.int 5 tk2)))
    (qGREATEST : PySem.W.nsIn K mainGlobals "GREATEST" = some (some (.int 1000 tk3)))
    (zabs : PySem.W.nsIn K mainGlobals "abs" = some none)
    (zsum : PySem.W.nsIn K mainGlobals "sum" = some none)
    (zall : PySem.W.nsIn K mainGlobals "all" = some none)
    (zany : PySem.W.nsIn K mainGlobals "any" = some none)
    (zmax : PySem.W.nsIn K mainGlobals "max" = some none)
    (zlen : PySem.W.nsIn K mainGlobals "len" = some none)
    (zint : PySem.W.nsIn K mainGlobals "int" = some none)
    (zbool : PySem.W.nsIn K mainGlobals "bool" = some none)
    (zstr : PySem.W.nsIn K mainGlobals "str" = some none)
    (zzip : PySem.W.nsIn K mainGlobals "zip" = some none)
    (zrange : PySem.W.nsIn K mainGlobals "range" = some none)
    (ztuple : PySem.W.nsIn K mainGlobals "tuple" = some none)
    (zlist : PySem.W.nsIn K mainGlobals "list" = some none)
    (zenumerate : PySem.W.nsIn K mainGlobals "enumerate" = some none)
    (zreversed : PySem.W.nsIn K mainGlobals "reversed" = some none)
    (zisinstance : PySem.W.nsIn K mainGlobals "isinstance" = some none)
    : ∃ fd : FuncData, (∀ (s : Shared) (v : Value), BindsTo s fd ⟨[v], []⟩ [("_law_script", v)]) ∧ ∀ base : Heap, K.In base → base.Ns mainGlobals mg → FnOk l.prog w K mg base CX0 5 fa fd ["_law_script"] (sp_law K) := by
  have e := hfa.symm.trans (PySem.W.mg_of X G a16)
  cases e
  have M : Bi mg := ⟨PySem.W.mg_none_of X G zabs, PySem.W.mg_none_of X G zsum, PySem.W.mg_none_of X G zall, PySem.W.mg_none_of X G zany, PySem.W.mg_none_of X G zmax, PySem.W.mg_none_of X G zlen, PySem.W.mg_none_of X G zint, PySem.W.mg_none_of X G zbool, PySem.W.mg_none_of X G zstr, PySem.W.mg_none_of X G zzip, PySem.W.mg_none_of X G zrange, PySem.W.mg_none_of X G ztuple, PySem.W.mg_none_of X G zlist, PySem.W.mg_none_of X G zenumerate, PySem.W.mg_none_of X G zreversed, PySem.W.mg_none_of X G zisinstance⟩
  have CS : Cs mg := ⟨⟨_, PySem.W.mg_of X G qMOST⟩, ⟨_, PySem.W.mg_of X G qWIDEST⟩, ⟨_, PySem.W.mg_of X G qGREATEST⟩⟩
  have F1 := fun_mk (st := s__law_cell_at) l1 c1 k1
  have b1 := F1.binds (ps := ["_law_script", "_law_k"]) fun _ _ _ _ _ _ us hl => match us, hl with | [_, _], _ => rfl
  have m1 := PySem.W.mg_of X G a1
  have F2 := fun_mk (st := s__law_mixed) l2 c2 k2
  have b2 := F2.binds (ps := ["_law_script", "_law_k"]) fun _ _ _ _ _ _ us hl => match us, hl with | [_, _], _ => rfl
  have m2 := PySem.W.mg_of X G a2
  have F3 := fun_mk (st := s__law_drawn) l3 c3 k3
  have b3 := F3.binds (ps := ["_law_number", "_law_k"]) fun _ _ _ _ _ _ us hl => match us, hl with | [_, _], _ => rfl
  have m3 := PySem.W.mg_of X G a3
  have F4 := fun_mk (st := s__law_product) l4 c4 k4
  have b4 := F4.binds (ps := ["_law_one", "_law_other"]) fun _ _ _ _ _ _ us hl => match us, hl with | [_, _], _ => rfl
  have m4 := PySem.W.mg_of X G a4
  have F5 := fun_mk (st := s__law_volume) l5 c5 k5
  have b5 := F5.binds (ps := ["_law_rows_here"]) fun _ _ _ _ _ _ us hl => match us, hl with | [_], _ => rfl
  have m5 := PySem.W.mg_of X G a5
  have F6 := fun_mk (st := s__law_row) l6 c6 k6
  have b6 := F6.binds (ps := ["_law_number", "_law_wide", "_law_high"]) fun _ _ _ _ _ _ us hl => match us, hl with | [_, _, _], _ => rfl
  have m6 := PySem.W.mg_of X G a6
  have F7 := fun_mk (st := s__law_skewed) l7 c7 k7
  have b7 := F7.binds (ps := ["_law_rows_here", "_law_number"]) fun _ _ _ _ _ _ us hl => match us, hl with | [_, _], _ => rfl
  have m7 := PySem.W.mg_of X G a7
  have F8 := fun_mk (st := s__law_rows) l8 c8 k8
  have b8 := F8.binds (ps := ["_law_number", "_law_most"]) fun _ _ _ _ _ _ us hl => match us, hl with | [_, _], _ => rfl
  have m8 := PySem.W.mg_of X G a8
  have F9 := fun_mk (st := s_product) l9 c9 k9
  have b9 := F9.binds (ps := ["one", "other"]) fun _ _ _ _ _ _ us hl => match us, hl with | [_, _], _ => rfl
  have m9 := PySem.W.mg_of X G a9
  have F10 := fun_mk (st := s_volume) l10 c10 k10
  have b10 := F10.binds (ps := ["rows"]) fun _ _ _ _ _ _ us hl => match us, hl with | [_], _ => rfl
  have m10 := PySem.W.mg_of X G a10
  have F11 := fun_mk (st := s_is_row) l11 c11 k11
  have b11 := F11.binds (ps := ["thing", "wide"]) fun _ _ _ _ _ _ us hl => match us, hl with | [_, _], _ => rfl
  have m11 := PySem.W.mg_of X G a11
  have F12 := fun_mk (st := s_are_rows) l12 c12 k12
  have b12 := F12.binds (ps := ["thing"]) fun _ _ _ _ _ _ us hl => match us, hl with | [_], _ => rfl
  have m12 := PySem.W.mg_of X G a12
  have F13 := fun_mk (st := s__law_are_rows) l13 c13 k13
  have b13 := F13.binds (ps := ["_law_thing"]) fun _ _ _ _ _ _ us hl => match us, hl with | [_], _ => rfl
  have m13 := PySem.W.mg_of X G a13
  have F14 := fun_mk (st := s__law_odd) l14 c14 k14
  have b14 := F14.binds (ps := ["_law_number"]) fun _ _ _ _ _ _ us hl => match us, hl with | [_], _ => rfl
  have m14 := PySem.W.mg_of X G a14
  have F15 := fun_mk (st := s__law_spoilt) l15 c15 k15
  have b15 := F15.binds (ps := ["_law_thing", "_law_number", "_law_deep"]) fun _ _ _ _ _ _ us hl => match us, hl with | [_, _, _], _ => rfl
  have m15 := PySem.W.mg_of X G a15
  have F16 := fun_mk (st := s_law) l16 c16 k16
  refine ⟨PySem.W.fnOf "law" "law" (defArgs s_law) (defBody s_law) (defScope s_law) .none kV16 dc16 pm16 an16 cd16 ct16, fun s v => .of_eq rfl, fun base _ _ => ?_⟩
  have D__law_cell_at : Df l.prog w K mg base 1 "_law_cell_at" ["_law_script", "_law_k"] (sp__law_cell_at K) := ⟨⟨f1, _, ok__law_cell_at F1 M , m1, k1, b1⟩⟩
  have D__law_mixed : Df l.prog w K mg base 2 "_law_mixed" ["_law_script", "_law_k"] (sp__law_mixed K) := ⟨⟨f2, _, ok__law_mixed F2 M D__law_cell_at, m2, k2, b2⟩⟩
  have D__law_drawn : Df l.prog w K mg base 1 "_law_drawn" ["_law_number", "_law_k"] (sp__law_drawn K) := ⟨⟨f3, _, ok__law_drawn F3 M , m3, k3, b3⟩⟩
  have D__law_product : Df l.prog w K mg base 1 "_law_product" ["_law_one", "_law_other"] (sp__law_product K) := ⟨⟨f4, _, ok__law_product F4 M , m4, k4, b4⟩⟩
  have D__law_volumeL : Df l.prog w K mg base 2 "_law_volume" ["_law_rows_here"] (sp__law_volumeL K) := ⟨⟨f5, _, ok__law_volumeL F5 M D__law_product, m5, k5, b5⟩⟩
  have D__law_volumeT : Df l.prog w K mg base 2 "_law_volume" ["_law_rows_here"] (sp__law_volumeT K) := ⟨⟨f5, _, ok__law_volumeT F5 M D__law_product, m5, k5, b5⟩⟩
  have D__law_row : Df l.prog w K mg base 2 "_law_row" ["_law_number", "_law_wide", "_law_high"] (sp__law_row K) := ⟨⟨f6, _, ok__law_row F6 M D__law_drawn, m6, k6, b6⟩⟩
  have D__law_skewedL : Df l.prog w K mg base 2 "_law_skewed" ["_law_rows_here", "_law_number"] (sp__law_skewedL K) := ⟨⟨f7, _, ok__law_skewedL F7 M D__law_drawn, m7, k7, b7⟩⟩
  have D__law_rows : Df l.prog w K mg base 3 "_law_rows" ["_law_number", "_law_most"] (sp__law_rows K) := ⟨⟨f8, _, ok__law_rows F8 M D__law_drawn D__law_row D__law_volumeL D__law_skewedL, m8, k8, b8⟩⟩
  have D_product : Df l.prog w K mg base 1 "product" ["one", "other"] (sp_product K) := ⟨⟨f9, _, ok_product F9 M , m9, k9, b9⟩⟩
  have D_volume : Df l.prog w K mg base 2 "volume" ["rows"] (sp_volume K) := ⟨⟨f10, _, ok_volume F10 M D_product, m10, k10, b10⟩⟩
  have D_is_row : Df l.prog w K mg base 1 "is_row" ["thing", "wide"] (sp_is_row K) := ⟨⟨f11, _, ok_is_row F11 M CS, m11, k11, b11⟩⟩
  have D_are_rows : Df l.prog w K mg base 3 "are_rows" ["thing"] (sp_are_rows K) := ⟨⟨f12, _, ok_are_rows F12 M D_is_row D_volume CS, m12, k12, b12⟩⟩
  have D__law_are_rows : Df l.prog w K mg base 3 "_law_are_rows" ["_law_thing"] (sp__law_are_rows K) := ⟨⟨f13, _, ok__law_are_rows F13 M D__law_volumeT, m13, k13, b13⟩⟩
  have D__law_odd : Df l.prog w K mg base 1 "_law_odd" ["_law_number"] (sp__law_odd K) := ⟨⟨f14, _, ok__law_odd F14 M , m14, k14, b14⟩⟩
  have D__law_spoilt0 : Df l.prog w K mg base 2 "_law_spoilt" ["_law_thing", "_law_number", "_law_deep"] (sp__law_spoilt0 K) := ⟨⟨f15, _, ok__law_spoilt0 F15 M D__law_odd, m15, k15, b15⟩⟩
  have D__law_spoilt1 : Df l.prog w K mg base 3 "_law_spoilt" ["_law_thing", "_law_number", "_law_deep"] (sp__law_spoilt1 K) := ⟨⟨f15, _, ok__law_spoilt1 F15 M D__law_spoilt0 D__law_odd, m15, k15, b15⟩⟩
  have D__law_spoilt2 : Df l.prog w K mg base 4 "_law_spoilt" ["_law_thing", "_law_number", "_law_deep"] (sp__law_spoilt2 K) := ⟨⟨f15, _, ok__law_spoilt2 F15 M D__law_spoilt1 D__law_odd, m15, k15, b15⟩⟩
  exact ok_law F16 M D__law_mixed D__law_row D__law_rows D__law_spoilt2 D__law_are_rows D_are_rows
end Tr
open PySem PySem.W PyProof.Rows in
set_option maxRecDepth 100000 in
set_option maxHeartbeats 0 in
theorem PySem.Challenge.cw_trimrows_k01_rows_holds : PySem.Challenge.rw_trimrows_k01_rows.Holds := by
  w_on; o_law; k_head; (case hw => w_witness2)
  k_fill
  refine Tr.walk (l := PySem.Challenge.rw_trimrows_k01_rows) (k := 5) rfl rfl ⟨rfl, by decide, by decide⟩ (fun w h Y => PySem.W.kIn_of Y) ?F
  case F =>
    intro w mg fa h KX G hmg
    refine' Tr.all_mk KX G hmg ?a1 ?l1 ?c1 ?k1 ?a2 ?l2 ?c2 ?k2 ?a3 ?l3 ?c3 ?k3 ?a4 ?l4 ?c4 ?k4 ?a5 ?l5 ?c5 ?k5 ?a6 ?l6 ?c6 ?k6 ?a7 ?l7 ?c7 ?k7 ?a8 ?l8 ?c8 ?k8 ?a9 ?l9 ?c9 ?k9 ?a10 ?l10 ?c10 ?k10 ?a11 ?l11 ?c11 ?k11 ?a12 ?l12 ?c12 ?k12 ?a13 ?l13 ?c13 ?k13 ?a14 ?l14 ?c14 ?k14 ?a15 ?l15 ?c15 ?k15 ?a16 ?l16 ?c16 ?k16 ?qMOST ?qWIDEST ?qGREATEST ?zabs ?zsum ?zall ?zany ?zmax ?zlen ?zint ?zbool ?zstr ?zzip ?zrange ?ztuple ?zlist ?zenumerate ?zreversed ?zisinstance
    (case a1 => k_is)
    (case l1 => k_is)
    (case c1 => k_is)
    (case k1 => k_is)
    (case a2 => k_is)
    (case l2 => k_is)
    (case c2 => k_is)
    (case k2 => k_is)
    (case a3 => k_is)
    (case l3 => k_is)
    (case c3 => k_is)
    (case k3 => k_is)
    (case a4 => k_is)
    (case l4 => k_is)
    (case c4 => k_is)
    (case k4 => k_is)
    (case a5 => k_is)
    (case l5 => k_is)
    (case c5 => k_is)
    (case k5 => k_is)
    (case a6 => k_is)
    (case l6 => k_is)
    (case c6 => k_is)
    (case k6 => k_is)
    (case a7 => k_is)
    (case l7 => k_is)
    (case c7 => k_is)
    (case k7 => k_is)
    (case a8 => k_is)
    (case l8 => k_is)
    (case c8 => k_is)
    (case k8 => k_is)
    (case a9 => k_is)
    (case l9 => k_is)
    (case c9 => k_is)
    (case k9 => k_is)
    (case a10 => k_is)
    (case l10 => k_is)
    (case c10 => k_is)
    (case k10 => k_is)
    (case a11 => k_is)
    (case l11 => k_is)
    (case c11 => k_is)
    (case k11 => k_is)
    (case a12 => k_is)
    (case l12 => k_is)
    (case c12 => k_is)
    (case k12 => k_is)
    (case a13 => k_is)
    (case l13 => k_is)
    (case c13 => k_is)
    (case k13 => k_is)
    (case a14 => k_is)
    (case l14 => k_is)
    (case c14 => k_is)
    (case k14 => k_is)
    (case a15 => k_is)
    (case l15 => k_is)
    (case c15 => k_is)
    (case k15 => k_is)
    (case a16 => k_is)
    (case l16 => k_is)
    (case c16 => k_is)
    (case k16 => k_is)
    (case qMOST => k_is)
    (case qWIDEST => k_is)
    (case qGREATEST => k_is)
    (case zabs => k_is)
    (case zsum => k_is)
    (case zall => k_is)
    (case zany => k_is)
    (case zmax => k_is)
    (case zlen => k_is)
    (case zint => k_is)
    (case zbool => k_is)
    (case zstr => k_is)
    (case zzip => k_is)
    (case zrange => k_is)
    (case ztuple => k_is)
    (case zlist => k_is)
    (case zenumerate => k_is)
    (case zreversed => k_is)
    (case zisinstance => k_is)
#print axioms PySem.Challenge.cw_trimrows_k01_rows_holds

