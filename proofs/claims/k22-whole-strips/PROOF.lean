import PyProof.Rows.All
import Wide.All
import OpenK.AllK
import Wide.FinOn
import PyProof.EqAt
import PyProof.EqKinds
import PyProof.TupleCall
import PyProof.EnumMake
import PyProof.WalksEnum
import PyProof.Draws
import KE.GoesMore
import KE.GoesEnum
import HandS.ForMost
import PyProof.Rows.InDataRows
import KE.KRevSl
import KE.DataMinMax
import KE.SortData
import HandS.Deep
import HandS.TupAny
import HandS.TupMul
import PyProof.DictCompW
import PyProof.DictMoreH
import HandS.More
import HandS.DictComp
import HandS.TupLen
import HandS.Exc
import HandS.WordsExc
import HandS.Defaults
import HandS.Evl
import HandS.TupLe
import HandS.IsInst
import HandS.Rev
import HandS.Style
import HandS.Conv
import HandS.Base
import HandS.Call
import HandS.Ends
import HandS.Words
import HandS.HeadHook1
import HandS.HeadHook2
import PySem.Challenge.RW_stepdown_k22_whole_strips_do_the_same
import KE.KStateDown
import HandS.Head0
import HandS.Head1
import HandS.Head2
import HandS.HeadEnd
import Lean
section
set_option autoImplicit false
namespace SD

/-! ### plain lists of ints -/
def dl : List Int → List Int
  | [] => []
  | x :: xs => if x = 0 then dl xs else x :: xs
def trim (xs : List Int) : List Int := (dl xs.reverse).reverse
def woe (xs : List Int) : List Int := trim (dl xs)
/-- the place behind the last non-zero of the first n -/
def trimN (xs : List Int) : Nat → Nat
  | 0 => 0
  | n + 1 => if xs.getD n 0 = 0 then trimN xs n else n + 1

theorem dl_app_nz {g : Int} (hg : g ≠ 0) : ∀ (A B : List Int), dl (A ++ g :: B) = dl A ++ g :: B
  | [], B => by simp [dl, hg]
  | x :: A, B => by
    by_cases h : x = 0
    · simp [dl, h, dl_app_nz hg A B]
    · simp [dl, h]
theorem dl_zeros_app : ∀ (n : Nat) (B : List Int), dl (List.replicate n 0 ++ B) = dl B
  | 0, B => by simp
  | n + 1, B => by rw [List.replicate_succ, List.cons_append]; simp [dl, dl_zeros_app n B]
theorem dl_zero_cons (B : List Int) : dl (0 :: B) = dl B := by simp [dl]
theorem trim_app_nz {g : Int} (hg : g ≠ 0) (A B : List Int) : trim (A ++ g :: B) = A ++ g :: trim B := by
  unfold trim
  rw [List.reverse_append, List.reverse_cons, List.append_assoc, List.singleton_append, dl_app_nz hg, List.reverse_append, List.reverse_cons, List.reverse_reverse]
  simp
theorem trim_snoc_zero (A : List Int) : trim (A ++ [0]) = trim A := by
  unfold trim
  rw [List.reverse_append]
  simp [dl]
theorem trim_rev (A : List Int) : (trim A).reverse = dl A.reverse := by unfold trim; simp
theorem woe_mid {g : Int} (hg : g ≠ 0) (A B : List Int) : woe (A ++ g :: B) = dl A ++ g :: trim B := by
  unfold woe
  rw [dl_app_nz hg, trim_app_nz hg]
theorem dl_len : ∀ xs : List Int, (dl xs).length ≤ xs.length
  | [] => Nat.le_refl _
  | x :: xs => by
    unfold dl
    split
    · exact Nat.le_succ_of_le (dl_len xs)
    · exact Nat.le_refl _
theorem trim_len (xs : List Int) : (trim xs).length ≤ xs.length := by
  unfold trim
  rw [List.length_reverse]
  exact Nat.le_trans (dl_len _) (by simp)
theorem dl_mem {x : Int} : ∀ {xs : List Int}, x ∈ dl xs → x ∈ xs
  | [], h => h
  | y :: xs, h => by
    unfold dl at h
    split at h
    · exact List.mem_cons_of_mem _ (dl_mem h)
    · exact h
theorem trim_mem {x : Int} {xs : List Int} (h : x ∈ trim xs) : x ∈ xs := by
  unfold trim at h
  exact List.mem_reverse.mp (dl_mem (List.mem_reverse.mp h))
theorem dl_idem : ∀ xs : List Int, dl (dl xs) = dl xs
  | [] => rfl
  | x :: xs => by
    by_cases h : x = 0
    · simp [dl, h, dl_idem xs]
    · simp [dl, h]
theorem trim_idem (xs : List Int) : trim (trim xs) = trim xs := by
  unfold trim
  rw [List.reverse_reverse, dl_idem]

/-! trim by a count -/
theorem trimN_le (xs : List Int) : ∀ n, trimN xs n ≤ n
  | 0 => Nat.le_refl _
  | n + 1 => by
    unfold trimN
    split
    · exact Nat.le_succ_of_le (trimN_le xs n)
    · exact Nat.le_refl _
theorem trim_take (xs : List Int) : ∀ n, n ≤ xs.length → trim (xs.take n) = xs.take (trimN xs n)
  | 0, _ => by simp [trimN, trim, dl]
  | n + 1, h => by
    have hn : n < xs.length := h
    have e : xs.take (n + 1) = xs.take n ++ [xs.getD n 0] := by
      rw [List.take_add_one, List.getD_eq_getElem?_getD, List.getElem?_eq_getElem hn]
      rfl
    unfold trimN
    by_cases hz : xs.getD n 0 = 0
    · rw [if_pos hz, e, hz, trim_snoc_zero, trim_take xs n (Nat.le_of_lt hn)]
    · rw [if_neg hz, e]
      have := trim_app_nz hz (xs.take n) []
      rw [this]
      simp [trim, dl]
theorem trim_eq (xs : List Int) : trim xs = xs.take (trimN xs xs.length) := by
  rw [← trim_take xs xs.length (Nat.le_refl _), List.take_length]

/-! what stands ahead is zero -/
theorem dl_drop : ∀ (xs : List Int) (b : Nat), (∀ j, j < b → xs.getD j 0 = 0) → (b < xs.length → xs.getD b 0 ≠ 0) → dl xs = xs.drop b
  | [], b, _, _ => by simp [dl]
  | x :: xs, 0, _, h1 => by
    have : x ≠ 0 := by simpa using h1 (by simp)
    simp [dl, this]
  | x :: xs, b + 1, h0, h1 => by
    have hx : x = 0 := by simpa using h0 0 (Nat.succ_pos _)
    have ih := dl_drop xs b (fun j hj => by simpa using h0 (j + 1) (Nat.succ_lt_succ hj)) (fun hb => by simpa using h1 (by simpa using hb))
    simp [dl, hx, ih]
/-- the places of what is not zero -/
def nzs (xs : List Int) (n : Nat) : List Nat := (List.range n).filter fun i => decide (xs.getD i 0 ≠ 0)
theorem nzs_succ (xs : List Int) (n : Nat) : nzs xs (n + 1) = nzs xs n ++ (if xs.getD n 0 = 0 then [] else [n]) := by
  unfold nzs
  rw [List.range_succ, List.filter_append]
  congr 1
  by_cases h : xs.getD n 0 = 0
  · rw [if_pos h, List.filter_cons, if_neg (by simpa using h), List.filter_nil]
  · rw [if_neg h, List.filter_cons, if_pos (by simpa using h), List.filter_nil]
theorem nzs_last (xs : List Int) : ∀ n, (nzs xs n = [] ∧ trimN xs n = 0) ∨ ∃ A k, nzs xs n = A ++ [k] ∧ trimN xs n = k + 1
  | 0 => .inl ⟨rfl, rfl⟩
  | n + 1 => by
    rw [nzs_succ]
    unfold trimN
    by_cases h : xs.getD n 0 = 0
    · rw [if_pos h, if_pos h, List.append_nil]
      exact nzs_last xs n
    · rw [if_neg h, if_neg h]
      exact .inr ⟨_, n, rfl, rfl⟩
theorem nzs_head (xs : List Int) : ∀ n k B, nzs xs n = k :: B → xs.getD k 0 ≠ 0 ∧ k < n ∧ ∀ j, j < k → xs.getD j 0 = 0
  | 0, k, B, h => by simp [nzs] at h
  | n + 1, k, B, h => by
    rw [nzs_succ] at h
    cases e : nzs xs n with
    | nil =>
      rw [e] at h
      by_cases hz : xs.getD n 0 = 0
      · rw [if_pos hz] at h; simp at h
      · rw [if_neg hz] at h
        have : n = k := by simpa using (List.cons.inj h).1
        subst this
        refine ⟨hz, Nat.lt_succ_self _, fun j hj => ?_⟩
        by_cases hz2 : xs.getD j 0 = 0
        · exact hz2
        · have : j ∈ nzs xs n := by
            unfold nzs
            exact List.mem_filter.mpr ⟨List.mem_range.mpr hj, by simpa using hz2⟩
          rw [e] at this
          exact absurd this (by simp)
    | cons k' B' =>
      rw [e] at h
      have : k' = k := (List.cons.inj h).1
      subst this
      obtain ⟨a, b, c⟩ := nzs_head xs n k' B' e
      exact ⟨a, Nat.lt_succ_of_lt b, c⟩
theorem woe_nil {xs : List Int} (h : nzs xs xs.length = []) : woe xs = [] := by
  rcases nzs_last xs xs.length with ⟨_, h2⟩ | ⟨A, k, h1, _⟩
  · have ht : trim xs = [] := by rw [trim_eq, h2]; simp
    have hz : ∀ j, j < xs.length → xs.getD j 0 = 0 := fun j hj => by
      by_cases hz2 : xs.getD j 0 = 0
      · exact hz2
      · have : j ∈ nzs xs xs.length := by
          unfold nzs
          exact List.mem_filter.mpr ⟨List.mem_range.mpr hj, by simpa using hz2⟩
        rw [h] at this
        exact absurd this (by simp)
    unfold woe
    rw [dl_drop xs xs.length hz (fun h => absurd h (Nat.lt_irrefl _))]
    simp [trim, dl]
  · rw [h] at h1
    exact absurd h1 (by simp)
theorem drop_take_woe (xs : List Int) (b : Nat) (hb : b < trimN xs xs.length) (h0 : ∀ j, j < b → xs.getD j 0 = 0) (h1 : xs.getD b 0 ≠ 0) :
    woe xs = (xs.drop b).take (trimN xs xs.length - b) := by
  have hlen := trimN_le xs xs.length
  unfold woe
  rw [dl_drop xs b h0 (fun _ => h1)]
  -- trim (drop b xs) = drop b (trim xs)
  have hbl : b < xs.length := by omega
  have e : xs = xs.take b ++ xs.getD b 0 :: xs.drop (b + 1) := by
    rw [List.getD_eq_getElem?_getD, List.getElem?_eq_getElem hbl]
    simp
  have e2 : xs.drop b = xs.getD b 0 :: xs.drop (b + 1) := by
    rw [List.getD_eq_getElem?_getD, List.getElem?_eq_getElem hbl]
    simp
  have t1 : trim (xs.drop b) = xs.getD b 0 :: trim (xs.drop (b + 1)) := by
    rw [e2]
    exact trim_app_nz h1 [] _
  have t2 : trim xs = xs.take b ++ xs.getD b 0 :: trim (xs.drop (b + 1)) := by
    rw [e, trim_app_nz h1]
    congr 1
    · rw [← e]
    · rw [← e]
  have t3 : (trim xs).drop b = trim (xs.drop b) := by
    rw [t2, t1, List.drop_append_of_le_length (by simp; omega)]
    simp
  rw [← t3, trim_eq, List.drop_take]
theorem woe_cut {xs : List Int} {k : Nat} {B : List Nat} (h : nzs xs xs.length = k :: B) {A : List Nat} {l : Nat} (h2 : nzs xs xs.length = A ++ [l]) :
    woe xs = (xs.drop k).take (l + 1 - k) ∧ k ≤ l ∧ l < xs.length := by
  obtain ⟨a, b, c⟩ := nzs_head xs _ k B h
  rcases nzs_last xs xs.length with ⟨h3, _⟩ | ⟨A', k', h3, h4⟩
  · rw [h] at h3; cases h3
  · have : k' = l := by
      rw [h2] at h3
      have := List.append_inj' h3 rfl
      simpa using this.2.symm
    subst this
    have hk : k ≤ k' := by
      have hm : k ∈ nzs xs xs.length := by rw [h]; simp
      rw [h3] at hm
      -- sorted
      have hlt : ∀ j, k' < j → j < xs.length → xs.getD j 0 = 0 := by
        intro j hj hjl
        by_cases hz : xs.getD j 0 = 0
        · exact hz
        · exfalso
          -- trimN would be larger
          have hmono : ∀ n, j < n → j < trimN xs n := by
            intro n
            induction n with
            | zero => intro h; omega
            | succ n ih =>
              intro hjn
              unfold trimN
              by_cases hz' : xs.getD n 0 = 0
              · rw [if_pos hz']
                by_cases hjn' : j = n
                · subst hjn'; exact absurd hz' hz
                · exact ih (by omega)
              · rw [if_neg hz']; exact hjn
          have := hmono xs.length hjl
          omega
      by_cases hk : k ≤ k'
      · exact hk
      · exact absurd (hlt k (by omega) b) a
    have hle := trimN_le xs xs.length
    refine ⟨?_, hk, by omega⟩
    have := drop_take_woe xs k (by omega) c a
    rw [this, h4]

/-! ### tiles and rows -/
structure Tl where
  e : Int
  n : Int
  w : Int
  s : Int
  deriving DecidableEq

def rowsF (ts : List Tl) : List Int → Int → List (List Tl)
  | [], w => if w = 0 then [[]] else []
  | s :: f, w => (ts.filter fun t => decide (t.w = w ∧ t.s = s)).flatMap fun t => (rowsF ts f t.e).map (t :: ·)
/-- a west colour from which the floor can be finished -/
def good (ts : List Tl) (f : List Int) (w : Int) : Bool := !(rowsF ts f w).isEmpty
theorem good_iff {ts : List Tl} {f : List Int} {w : Int} : good ts f w = true ↔ rowsF ts f w ≠ [] := by
  unfold good
  cases rowsF ts f w <;> simp
theorem good_nil {ts : List Tl} {w : Int} : good ts [] w = decide (w = 0) := by
  unfold good rowsF
  by_cases h : w = 0 <;> simp [h]
theorem good_cons {ts : List Tl} {s : Int} {f : List Int} {w : Int} : good ts (s :: f) w = ts.any fun t => decide (t.s = s) && good ts f t.e && decide (t.w = w) := by
  rw [Bool.eq_iff_iff, good_iff, List.any_eq_true]
  constructor
  · intro h
    unfold rowsF at h
    obtain ⟨r, hr⟩ := List.exists_mem_of_ne_nil _ h
    obtain ⟨t, ht, hr⟩ := List.mem_flatMap.mp hr
    obtain ⟨ht1, ht2⟩ := List.mem_filter.mp ht
    obtain ⟨r', hr', _⟩ := List.mem_map.mp hr
    refine ⟨t, ht1, ?_⟩
    have hw : t.w = w ∧ t.s = s := of_decide_eq_true ht2
    have hg : good ts f t.e = true := good_iff.mpr (List.ne_nil_of_mem hr')
    simp [hw.1, hw.2, hg]
  · rintro ⟨t, ht, h⟩
    simp only [Bool.and_eq_true, decide_eq_true_eq] at h
    obtain ⟨⟨h1, h2⟩, h3⟩ := h
    obtain ⟨r, hr⟩ := List.exists_mem_of_ne_nil _ (good_iff.mp h2)
    refine List.ne_nil_of_mem (a := t :: r) ?_
    unfold rowsF
    exact List.mem_flatMap.mpr ⟨t, List.mem_filter.mpr ⟨ht, by simp [h1, h3]⟩, List.mem_map.mpr ⟨r, hr, rfl⟩⟩

/-! the search from the left, ways that can't be finished cut off -/
def eastOf (r : List Tl) : Int := match r.getLast? with
  | some t => t.e
  | none => 0
theorem eastOf_snoc (r : List Tl) (t : Tl) : eastOf (r ++ [t]) = t.e := by simp [eastOf]
def fwStep (ts : List Tl) (s : Int) (g : Int → Bool) (rs : List (List Tl)) : List (List Tl) :=
  rs.flatMap fun r => (ts.filter fun t => decide (t.w = eastOf r ∧ t.s = s) && g t.e).map fun t => r ++ [t]
def fwSub (ts : List Tl) (s : Int) (g : Int → Bool) (r : List Tl) : List (List Tl) := (ts.filter fun t => decide (t.w = eastOf r ∧ t.s = s) && g t.e).map fun t => r ++ [t]
def fin (ts : List Tl) (f : List Int) (rs : List (List Tl)) : List (List Tl) := rs.flatMap fun r => (rowsF ts f (eastOf r)).map (r ++ ·)
theorem flatMap_filter_nil {α β : Type} (p q : α → Bool) (F : α → List β) (h : ∀ a, p a = true → q a = false → F a = []) : ∀ l : List α,
    (l.filter p).flatMap F = (l.filter fun a => p a && q a).flatMap F
  | [] => rfl
  | a :: l => by
    have ih := flatMap_filter_nil p q F h l
    rw [List.filter_cons, List.filter_cons]
    cases hp : p a with
    | false => simpa [hp] using ih
    | true =>
      cases hq : q a with
      | false => simpa [hp, hq, h a hp hq] using ih
      | true => simp [ih]
theorem fin_step (ts : List Tl) (s : Int) (f : List Int) (rs : List (List Tl)) : fin ts (s :: f) rs = fin ts f (fwStep ts s (good ts f) rs) := by
  unfold fin fwStep
  rw [List.flatMap_assoc]
  congr 1
  funext r
  show (rowsF ts (s :: f) (eastOf r)).map (r ++ ·) = _
  rw [rowsF, List.map_flatMap, List.flatMap_map]
  rw [flatMap_filter_nil (fun t : Tl => decide (t.w = eastOf r ∧ t.s = s)) (fun t => good ts f t.e)]
  · congr 1
    funext t
    rw [eastOf_snoc, List.map_map]
    congr 1
    funext r'
    simp
  · intro t _ h2
    have : rowsF ts f t.e = [] := by
      cases e : rowsF ts f t.e with
      | nil => rfl
      | cons a b =>
        have : good ts f t.e = true := good_iff.mpr (by rw [e]; simp)
        rw [this] at h2; cases h2
    rw [this]; rfl
theorem fwStep_good {ts : List Tl} {s : Int} {g : Int → Bool} {rs : List (List Tl)} : ∀ r ∈ fwStep ts s g rs, g (eastOf r) = true := by
  intro r hr
  unfold fwStep at hr
  obtain ⟨r0, _, hr⟩ := List.mem_flatMap.mp hr
  obtain ⟨t, ht, rfl⟩ := List.mem_map.mp hr
  rw [eastOf_snoc]
  have := (List.mem_filter.mp ht).2
  simp only [Bool.and_eq_true] at this
  exact this.2
theorem len_le_fin {ts : List Tl} {f : List Int} : ∀ {rs : List (List Tl)}, (∀ r ∈ rs, good ts f (eastOf r) = true) → rs.length ≤ (fin ts f rs).length
  | [], _ => Nat.zero_le _
  | r :: rs, h => by
    have ih := len_le_fin (ts := ts) (f := f) (rs := rs) fun r hr => h r (List.mem_cons_of_mem _ hr)
    have h1 : rowsF ts f (eastOf r) ≠ [] := good_iff.mp (h r List.mem_cons_self)
    have h2 : 0 < (rowsF ts f (eastOf r)).length := List.length_pos_iff.mpr h1
    unfold fin at ih ⊢
    rw [List.flatMap_cons, List.length_append, List.length_map, List.length_cons]
    omega
theorem fin_nil {ts : List Tl} : ∀ {rs : List (List Tl)}, (∀ r ∈ rs, eastOf r = 0) → fin ts [] rs = rs
  | [], _ => rfl
  | r :: rs, h => by
    have ih := fin_nil (ts := ts) (rs := rs) fun r hr => h r (List.mem_cons_of_mem _ hr)
    unfold fin at ih ⊢
    rw [List.flatMap_cons, ih]
    show (rowsF ts [] (eastOf r)).map (r ++ ·) ++ rs = r :: rs
    rw [h r List.mem_cons_self]
    simp [rowsF]
theorem fin_start (ts : List Tl) (f : List Int) : fin ts f [[]] = rowsF ts f 0 := by
  unfold fin eastOf
  simp

/-! the law's search: from the left, nothing cut off, only colours kept -/
abbrev Part := Int × List Int
def ptStep (ts : List Tl) (s : Int) (ps : List Part) : List Part :=
  ps.flatMap fun p => ((ts.filter fun t => decide (t.s = s)).filter fun t => decide (t.w = p.1)).map fun t => (t.e, p.2 ++ [t.n])
def ptAll (ts : List Tl) (f : List Int) (ps : List Part) : List Part := f.foldl (fun ps s => ptStep ts s ps) ps
def ptFin (ts : List Tl) (f : List Int) (ps : List Part) : List (List Int) := ps.flatMap fun p => (rowsF ts f p.1).map fun r => p.2 ++ r.map (·.n)
theorem ptFin_step (ts : List Tl) (s : Int) (f : List Int) (ps : List Part) : ptFin ts (s :: f) ps = ptFin ts f (ptStep ts s ps) := by
  unfold ptFin ptStep
  rw [List.flatMap_assoc]
  congr 1
  funext p
  show (rowsF ts (s :: f) p.1).map (fun r => p.2 ++ r.map (·.n)) = _
  rw [rowsF, List.map_flatMap, List.flatMap_map, List.filter_filter]
  have e : (fun t : Tl => decide (t.w = p.1 ∧ t.s = s)) = fun t : Tl => decide (t.w = p.1) && decide (t.s = s) := by
    funext t
    by_cases h1 : t.w = p.1 <;> by_cases h2 : t.s = s <;> simp [h1, h2]
  rw [e]
  congr 1
  funext t
  rw [List.map_map]
  congr 1
  funext r
  simp
theorem ptFin_all (ts : List Tl) : ∀ (f : List Int) (ps : List Part), ptFin ts f ps = ptFin ts [] (ptAll ts f ps)
  | [], ps => rfl
  | s :: f, ps => by
    rw [ptFin_step, ptFin_all ts f]
    rfl
def ptEnd (ps : List Part) : List (List Int) := (ps.filter fun p => decide (p.1 = 0)).map (·.2)
theorem ptFin_nil (ts : List Tl) : ∀ ps : List Part, ptFin ts [] ps = ptEnd ps
  | [] => rfl
  | p :: ps => by
    have ih := ptFin_nil ts ps
    unfold ptFin ptEnd at ih ⊢
    rw [List.flatMap_cons, ih, List.filter_cons]
    by_cases h : p.1 = 0 <;> simp [rowsF, h]
theorem floors_eq (ts : List Tl) (f : List Int) : ptEnd (ptAll ts f [(0, [])]) = (rowsF ts f 0).map fun r => r.map (·.n) := by
  rw [← ptFin_nil ts, ← ptFin_all]
  unfold ptFin
  simp

/-! ### tiles among which ways don't meet -/
def live (w : Int) : Prop := w = 0 ∨ w % 2 = 1
structure Apart (ts : List Tl) : Prop where
  nd : ts.Nodup
  same : ∀ t ∈ ts, ∀ t' ∈ ts, t.s = t'.s → t.w = t'.w → t ≠ t' → t.e ≠ t'.e ∧ ¬ (live t.e ∧ live t'.e)
  diff : ∀ t ∈ ts, ∀ t' ∈ ts, t.s = t'.s → t.w ≠ t'.w → live t.w ∧ live t'.w
def Rl (p p' : Part) : Prop := p.1 ≠ p'.1 ∧ ¬ (live p.1 ∧ live p'.1)
theorem ptStep_rl {ts : List Tl} (A : Apart ts) {s : Int} {ps : List Part} (h : ps.Pairwise Rl) : (ptStep ts s ps).Pairwise Rl := by
  unfold ptStep
  rw [List.pairwise_flatMap]
  have mem : ∀ {p : Part} {t : Tl}, t ∈ (ts.filter fun t => decide (t.s = s)).filter (fun t => decide (t.w = p.1)) → t ∈ ts ∧ t.s = s ∧ t.w = p.1 := by
    intro p t ht
    obtain ⟨h1, h2⟩ := List.mem_filter.mp ht
    obtain ⟨h3, h4⟩ := List.mem_filter.mp h1
    exact ⟨h3, of_decide_eq_true h4, of_decide_eq_true h2⟩
  constructor
  · intro p _
    rw [List.pairwise_map]
    have nd : ((ts.filter fun t => decide (t.s = s)).filter fun t => decide (t.w = p.1)).Nodup := (A.nd.filter _).filter _
    refine List.Pairwise.imp_of_mem (fun {t t'} ht ht' hne => ?_) nd
    obtain ⟨a1, a2, a3⟩ := mem ht
    obtain ⟨b1, b2, b3⟩ := mem ht'
    exact A.same t a1 t' b1 (a2.trans b2.symm) (a3.trans b3.symm) hne
  · refine h.imp fun {p p'} hr x hx y hy => ?_
    obtain ⟨t, ht, rfl⟩ := List.mem_map.mp hx
    obtain ⟨t', ht', rfl⟩ := List.mem_map.mp hy
    obtain ⟨a1, a2, a3⟩ := mem ht
    obtain ⟨b1, b2, b3⟩ := mem ht'
    have := A.diff t a1 t' b1 (a2.trans b2.symm) (by rw [a3, b3]; exact hr.1)
    rw [a3, b3] at this
    exact absurd this hr.2
theorem flatMap_len {α β : Type} (F : α → List β) (c : Nat) (hc : ∀ a, (F a).length ≤ c) : ∀ {l : List α}, l.Pairwise (fun a b => F a = [] ∨ F b = []) → (l.flatMap F).length ≤ c
  | [], _ => Nat.zero_le _
  | a :: l, h => by
    obtain ⟨h1, h2⟩ := List.pairwise_cons.mp h
    rw [List.flatMap_cons, List.length_append]
    by_cases e : F a = []
    · rw [e]
      have := flatMap_len F c hc h2
      simpa using this
    · have : l.flatMap F = [] := by
        rw [List.flatMap_eq_nil_iff]
        intro b hb
        rcases h1 b hb with z | z
        · exact absurd z e
        · exact z
      rw [this]
      simpa using hc a
theorem ptStep_len {ts : List Tl} (A : Apart ts) {s : Int} {ps : List Part} (h : ps.Pairwise Rl) : (ptStep ts s ps).length ≤ ts.length := by
  unfold ptStep
  refine flatMap_len _ _ (fun p => ?_) (h.imp fun {p p'} hr => ?_)
  · rw [List.length_map]
    exact Nat.le_trans (List.length_filter_le _ _) (List.length_filter_le _ _)
  · by_cases e1 : ((ts.filter fun t => decide (t.s = s)).filter fun t => decide (t.w = p.1)).map (fun t => (t.e, p.2 ++ [t.n])) = []
    · exact .inl e1
    · by_cases e2 : ((ts.filter fun t => decide (t.s = s)).filter fun t => decide (t.w = p'.1)).map (fun t => (t.e, p'.2 ++ [t.n])) = []
      · exact .inr e2
      · exfalso
        obtain ⟨x, hx⟩ := List.exists_mem_of_ne_nil _ e1
        obtain ⟨y, hy⟩ := List.exists_mem_of_ne_nil _ e2
        obtain ⟨t, ht, rfl⟩ := List.mem_map.mp hx
        obtain ⟨t', ht', rfl⟩ := List.mem_map.mp hy
        obtain ⟨h1, h2⟩ := List.mem_filter.mp ht
        obtain ⟨h3, h4⟩ := List.mem_filter.mp h1
        obtain ⟨g1, g2⟩ := List.mem_filter.mp ht'
        obtain ⟨g3, g4⟩ := List.mem_filter.mp g1
        have a2 := of_decide_eq_true h4
        have a3 := of_decide_eq_true h2
        have b2 := of_decide_eq_true g4
        have b3 := of_decide_eq_true g2
        have := A.diff t h3 t' g3 (a2.trans b2.symm) (by rw [a3, b3]; exact hr.1)
        rw [a3, b3] at this
        exact hr.2 this
theorem ptAll_rl {ts : List Tl} (A : Apart ts) : ∀ (f : List Int) (ps : List Part), ps.Pairwise Rl → (ptAll ts f ps).Pairwise Rl
  | [], _, h => h
  | s :: f, ps, h => ptAll_rl A f (ptStep ts s ps) (ptStep_rl A h)
theorem rows_le_one {ts : List Tl} (A : Apart ts) (f : List Int) : (rowsF ts f 0).length ≤ 1 := by
  have h := ptAll_rl A f [(0, [])] (List.pairwise_singleton _ _)
  have e := congrArg List.length (floors_eq ts f)
  rw [List.length_map] at e
  rw [← e]
  unfold ptEnd
  rw [List.length_map]
  have hp : ((ptAll ts f [(0, [])]).filter fun p => decide (p.1 = 0)).Pairwise Rl := h.filter _
  have hm : ∀ p ∈ (ptAll ts f [(0, [])]).filter fun p => decide (p.1 = 0), p.1 = 0 := fun p hp => of_decide_eq_true (List.mem_filter.mp hp).2
  match q : (ptAll ts f [(0, [])]).filter fun p => decide (p.1 = 0) with
  | [] => rw [q]; simp
  | [_] => rw [q]; simp
  | a :: b :: r =>
    rw [q] at hp hm
    have := (List.pairwise_cons.mp hp).1 b (by simp)
    exact absurd ((hm a (by simp)).trans (hm b (by simp)).symm) this.1
/-- the forward search never has more than one row -/
theorem fw_le_one {ts : List Tl} (A : Apart ts) {f0 f : List Int} {rs : List (List Tl)} (h : fin ts f rs = rowsF ts f0 0) (hg : ∀ r ∈ rs, good ts f (eastOf r) = true) : rs.length ≤ 1 :=
  Nat.le_trans (len_le_fin hg) (by rw [h]; exact rows_le_one A f0)
end SD
end
section
set_option autoImplicit false
namespace SD

/-! ### machines, configurations -/
abbrev Row := Option (Int × Int × Int)
structure Mach where
  m : Int
  s : Int
  rows : List Row
def rowOk (m s : Int) (r : Row) : Prop := ∀ w v q, r = some (w, v, q) → 0 ≤ w ∧ w < m ∧ (v = 1 ∨ v = -1) ∧ 0 ≤ q ∧ q < s
structure Mach.Ok (M : Mach) : Prop where
  m2 : 2 ≤ M.m
  m16 : M.m ≤ 16
  s1 : 1 ≤ M.s
  s20 : M.s ≤ 20
  len : (M.rows.length : Int) = M.m * M.s
  rows : ∀ r ∈ M.rows, rowOk M.m M.s r
def Mach.row (M : Mach) (q a : Int) : Row := M.rows.getD (q * M.m + a).toNat none
def Mach.L (M : Mach) (a q : Int) : Int := M.m * (q + 1) + a
structure Cf where
  q : Int
  l : List Int
  a : Int
  r : List Int
  deriving DecidableEq
def Marks (m : Int) (xs : List Int) : Prop := ∀ x ∈ xs, 0 ≤ x ∧ x < m
structure Cf.Ok (M : Mach) (c : Cf) : Prop where
  q0 : 0 ≤ c.q
  qs : c.q < M.s
  a0 : 0 ≤ c.a
  am : c.a < M.m
  l : Marks M.m c.l
  r : Marks M.m c.r
  lt : trim c.l = c.l
  rt : trim c.r = c.r
def Mach.next (M : Mach) (c : Cf) : Option Cf := match M.row c.q c.a with
  | none => none
  | some (w, v, q) => if v = 1 then some ⟨q, trim (w :: c.l), c.r.headD 0, c.r.tail⟩ else some ⟨q, c.l.tail, c.l.headD 0, trim (w :: c.r)⟩
def Mach.line (M : Mach) (c : Cf) : List Int := c.l.reverse ++ M.L c.a c.q :: c.r

section
variable {M : Mach}
theorem rc_bound (h : M.Ok) {q a : Int} (q0 : 0 ≤ q) (qs : q < M.s) (a0 : 0 ≤ a) (am : a < M.m) : 0 ≤ q * M.m + a ∧ q * M.m + a < M.m * M.s := by
  have h1 := h.m2
  have e1 : 0 ≤ q * M.m := Int.mul_nonneg q0 (by omega)
  have e2 : (q + 1) * M.m ≤ M.s * M.m := Int.mul_le_mul_of_nonneg_right (by omega) (by omega)
  rw [Int.add_mul, Int.one_mul] at e2
  rw [Int.mul_comm M.m M.s]
  omega
theorem row_get (h : M.Ok) {q a : Int} (q0 : 0 ≤ q) (qs : q < M.s) (a0 : 0 ≤ a) (am : a < M.m) : M.rows[(q * M.m + a).toNat]? = some (M.row q a) := by
  obtain ⟨b0, b1⟩ := rc_bound h q0 qs a0 am
  have hl := h.len
  have : (q * M.m + a).toNat < M.rows.length := by omega
  unfold Mach.row
  rw [List.getD_eq_getElem?_getD, List.getElem?_eq_getElem this]
  rfl
theorem row_ok (h : M.Ok) {q a : Int} (q0 : 0 ≤ q) (qs : q < M.s) (a0 : 0 ≤ a) (am : a < M.m) : rowOk M.m M.s (M.row q a) :=
  h.rows _ (List.mem_of_getElem? (row_get h q0 qs a0 am))
theorem L_bound (h : M.Ok) {q a : Int} (q0 : 0 ≤ q) (qs : q < M.s) (a0 : 0 ≤ a) (am : a < M.m) : M.m ≤ M.L a q ∧ M.L a q < M.m * (M.s + 1) ∧ M.L a q ≤ 336 := by
  have h1 := h.m2
  have h2 := h.m16
  have h3 := h.s20
  unfold Mach.L
  have e1 : M.m * 1 ≤ M.m * (q + 1) := Int.mul_le_mul_of_nonneg_left (by omega) (by omega)
  have e2 : M.m * (q + 1) ≤ M.m * M.s := Int.mul_le_mul_of_nonneg_left (by omega) (by omega)
  have e3 : M.m * M.s ≤ 16 * 20 := Int.mul_le_mul h2 h3 (by omega) (by omega)
  have e4 : M.m * (M.s + 1) = M.m * M.s + M.m := by rw [Int.mul_add, Int.mul_one]
  omega
theorem L_div (h : M.Ok) {q a : Int} (a0 : 0 ≤ a) (am : a < M.m) : M.L a q / M.m = q + 1 ∧ M.L a q % M.m = a := by
  have h1 := h.m2
  unfold Mach.L
  constructor
  · rw [Int.mul_add_ediv_left _ _ (by omega), Int.ediv_eq_zero_of_lt a0 am]
    omega
  · rw [Int.mul_add_emod_self_left, Int.emod_eq_of_lt a0 am]
theorem L_inj (h : M.Ok) {q a q' a' : Int} (a0 : 0 ≤ a) (am : a < M.m) (a0' : 0 ≤ a') (am' : a' < M.m) (e : M.L a q = M.L a' q') : q = q' ∧ a = a' := by
  obtain ⟨d1, r1⟩ := L_div h (q := q) a0 am
  obtain ⟨d2, r2⟩ := L_div h (q := q') a0' am'
  rw [e] at d1 r1
  omega

/-! ### the next configuration is one -/
theorem marks_trim {m : Int} {xs : List Int} (h : Marks m xs) : Marks m (trim xs) := fun x hx => h x (trim_mem hx)
theorem marks_tail {m : Int} {xs : List Int} (h : Marks m xs) : Marks m xs.tail := fun x hx => h x (List.mem_of_mem_tail hx)
theorem headD_ok {m : Int} (hm : 2 ≤ m) {xs : List Int} (h : Marks m xs) : 0 ≤ xs.headD 0 ∧ xs.headD 0 < m := by
  cases xs with
  | nil => simp; omega
  | cons x xs => exact h x (by simp)
theorem trim_tail {xs : List Int} (h : trim xs = xs) : trim xs.tail = xs.tail := by
  cases xs with
  | nil => rfl
  | cons x xs =>
    show trim xs = xs
    by_cases hx : trim xs = xs
    · exact hx
    · exfalso
      -- the last of xs is zero
      have e : trim (x :: xs) = if trim xs = [] then trim [x] else x :: trim xs := by
        unfold trim
        rw [List.reverse_cons]
        have key : ∀ A : List Int, dl (A ++ [x]) = if dl A = [] then dl [x] else dl A ++ [x] := by
          intro A
          induction A with
          | nil => simp [dl]
          | cons y A ih =>
            by_cases hy : y = 0
            · simp [dl, hy, ih]
            · simp [dl, hy]
        rw [key]
        by_cases hz : dl xs.reverse = []
        · simp [hz]
        · have : (dl xs.reverse).reverse ≠ [] := by simpa using hz
          rw [if_neg hz, if_neg this]
          simp
      rw [e] at h
      by_cases hz : trim xs = []
      · rw [if_pos hz] at h
        have h2 := congrArg List.length h
        have h3 := trim_len [x]
        simp only [List.length_cons, List.length_nil] at h2 h3
        have : xs = [] := by
          apply List.eq_nil_of_length_eq_zero
          omega
        rw [this] at hx
        exact hx rfl
      · rw [if_neg hz] at h
        exact hx (List.cons.inj h).2
theorem next_ok (h : M.Ok) {c c' : Cf} (hc : c.Ok M) (e : M.next c = some c') : c'.Ok M := by
  have hr := row_ok h hc.q0 hc.qs hc.a0 hc.am
  unfold Mach.next at e
  cases er : M.row c.q c.a with
  | none => rw [er] at e; cases e
  | some r =>
    obtain ⟨w, v, q⟩ := r
    obtain ⟨w0, wm, hv, q0, qs⟩ := hr w v q er
    rw [er] at e
    have hw : ∀ {xs : List Int}, Marks M.m xs → Marks M.m (w :: xs) := fun hx x hm => by
      rcases List.mem_cons.mp hm with rfl | hm
      · exact ⟨w0, wm⟩
      · exact hx x hm
    by_cases h1 : v = 1
    · have e : some (⟨q, trim (w :: c.l), c.r.headD 0, c.r.tail⟩ : Cf) = some c' := by simpa [h1] using e
      cases e
      obtain ⟨a0, am⟩ := headD_ok h.m2 hc.r
      exact ⟨q0, qs, a0, am, marks_trim (hw hc.l), marks_tail hc.r, trim_idem _, trim_tail hc.rt⟩
    · have e : some (⟨q, c.l.tail, c.l.headD 0, trim (w :: c.r)⟩ : Cf) = some c' := by simpa [h1] using e
      cases e
      obtain ⟨a0, am⟩ := headD_ok h.m2 hc.l
      exact ⟨q0, qs, a0, am, marks_tail hc.l, marks_trim (hw hc.r), trim_tail hc.lt, trim_idem _⟩

/-! ### the tiles -/
def rowT (h : Int) : Row → List Tl
  | none => []
  | some (w, v, q) => if v = 1 then [⟨1 + 2 * q, w, 0, h⟩] else [⟨0, w, 2 + 2 * q, h⟩]
def Mach.cellT (M : Mach) (q a : Int) : List Tl := [⟨0, M.L a q, 1 + 2 * q, a⟩, ⟨2 + 2 * q, M.L a q, 0, a⟩] ++ rowT (M.L a q) (M.row q a)
def Mach.tilesQ (M : Mach) (q : Int) (n : Nat) : List Tl := (List.range n).flatMap fun a => M.cellT q (a : Nat)
def blanks (n : Nat) : List Tl := (List.range n).map fun a => ⟨0, (a : Nat), 0, (a : Nat)⟩
def Mach.tilesN (M : Mach) (n : Nat) : List Tl := blanks M.m.toNat ++ (List.range n).flatMap fun q => M.tilesQ (q : Nat) M.m.toNat
def Mach.tiles (M : Mach) : List Tl := M.tilesN M.s.toNat
theorem tilesN_succ (n : Nat) : M.tilesN (n + 1) = M.tilesN n ++ M.tilesQ (n : Nat) M.m.toNat := by
  unfold Mach.tilesN
  rw [List.range_succ, List.flatMap_append, List.append_assoc]
  simp
theorem tilesQ_succ (q : Int) (n : Nat) : M.tilesQ q (n + 1) = M.tilesQ q n ++ M.cellT q (n : Nat) := by
  unfold Mach.tilesQ
  rw [List.range_succ, List.flatMap_append]
  simp
theorem rowT_len (h : Int) (r : Row) : (rowT h r).length ≤ 1 := by
  unfold rowT
  split
  · simp
  · split <;> simp
theorem tilesQ_len (q : Int) : ∀ n, (M.tilesQ q n).length ≤ 3 * n
  | 0 => by simp [Mach.tilesQ]
  | n + 1 => by
    rw [tilesQ_succ, List.length_append]
    have h1 := tilesQ_len q n
    have h2 := rowT_len (M.L (n : Nat) q) (M.row q (n : Nat))
    unfold Mach.cellT
    simp only [List.length_append, List.length_cons, List.length_nil]
    omega
theorem tilesN_len : ∀ n, (M.tilesN n).length ≤ M.m.toNat + n * (3 * M.m.toNat)
  | 0 => by simp [Mach.tilesN, blanks]
  | n + 1 => by
    rw [tilesN_succ, List.length_append]
    have h1 := tilesN_len n
    have h2 := tilesQ_len (M := M) (n : Nat) M.m.toNat
    rw [Nat.add_mul, Nat.one_mul]
    omega
theorem nat_bound {a b : Nat} (ha : a ≤ 16) (hb : b ≤ 20) : a + b * (3 * a) ≤ 976 := by
  have : b * (3 * a) ≤ 20 * (3 * 16) := Nat.mul_le_mul hb (by omega)
  omega
theorem tilesN_976 (h : M.Ok) {n : Nat} (hn : n ≤ M.s.toNat) : (M.tilesN n).length ≤ 976 := by
  have h1 := tilesN_len (M := M) n
  have := nat_bound (a := M.m.toNat) (b := n) (by have := h.m16; omega) (by have := h.s20; omega)
  omega
theorem tiles_len (h : M.Ok) : M.tiles.length ≤ 976 := tilesN_976 h (Nat.le_refl _)

/-- the kinds of tiles -/
inductive Kind (M : Mach) : Tl → Prop
  | blank (a : Int) (a0 : 0 ≤ a) (am : a < M.m) : Kind M ⟨0, a, 0, a⟩
  | left (q a : Int) (q0 : 0 ≤ q) (qs : q < M.s) (a0 : 0 ≤ a) (am : a < M.m) : Kind M ⟨0, M.L a q, 1 + 2 * q, a⟩
  | right (q a : Int) (q0 : 0 ≤ q) (qs : q < M.s) (a0 : 0 ≤ a) (am : a < M.m) : Kind M ⟨2 + 2 * q, M.L a q, 0, a⟩
  | go1 (q a w q' : Int) (q0 : 0 ≤ q) (qs : q < M.s) (a0 : 0 ≤ a) (am : a < M.m) (e : M.row q a = some (w, 1, q')) : Kind M ⟨1 + 2 * q', w, 0, M.L a q⟩
  | go2 (q a w q' : Int) (q0 : 0 ≤ q) (qs : q < M.s) (a0 : 0 ≤ a) (am : a < M.m) (e : M.row q a = some (w, -1, q')) : Kind M ⟨0, w, 2 + 2 * q', M.L a q⟩
theorem kind_of_mem (h : M.Ok) {t : Tl} (ht : t ∈ M.tiles) : Kind M t := by
  unfold Mach.tiles Mach.tilesN at ht
  rcases List.mem_append.mp ht with ht | ht
  · unfold blanks at ht
    obtain ⟨a, ha, rfl⟩ := List.mem_map.mp ht
    have := List.mem_range.mp ha
    exact .blank _ (by omega) (by omega)
  · obtain ⟨q, hq, ht⟩ := List.mem_flatMap.mp ht
    unfold Mach.tilesQ at ht
    obtain ⟨a, ha, ht⟩ := List.mem_flatMap.mp ht
    have h1 := List.mem_range.mp hq
    have h2 := List.mem_range.mp ha
    have q0 : (0 : Int) ≤ (q : Nat) := by omega
    have qs : ((q : Nat) : Int) < M.s := by omega
    have a0 : (0 : Int) ≤ (a : Nat) := by omega
    have am : ((a : Nat) : Int) < M.m := by omega
    unfold Mach.cellT at ht
    rcases List.mem_append.mp ht with ht | ht
    · rcases List.mem_cons.mp ht with rfl | ht
      · exact .left _ _ q0 qs a0 am
      · rcases List.mem_cons.mp ht with rfl | ht
        · exact .right _ _ q0 qs a0 am
        · cases ht
    · have hr := row_ok h q0 qs a0 am
      cases er : M.row (q : Nat) (a : Nat) with
      | none => rw [er] at ht; cases ht
      | some r =>
        obtain ⟨w, v, q'⟩ := r
        rw [er] at ht
        obtain ⟨_, _, hv, _, _⟩ := hr w v q' er
        rcases hv with rfl | rfl
        · have : t = ⟨1 + 2 * q', w, 0, M.L (a : Nat) (q : Nat)⟩ := by simpa [rowT] using ht
          subst this
          exact .go1 _ _ _ _ q0 qs a0 am er
        · have : t = ⟨0, w, 2 + 2 * q', M.L (a : Nat) (q : Nat)⟩ := by simpa [rowT] using ht
          subst this
          exact .go2 _ _ _ _ q0 qs a0 am er
theorem mem_cell {q a : Int} (q0 : 0 ≤ q) (qs : q < M.s) (a0 : 0 ≤ a) (am : a < M.m) {t : Tl} (ht : t ∈ M.cellT q a) : t ∈ M.tiles := by
  unfold Mach.tiles Mach.tilesN Mach.tilesQ
  refine List.mem_append.mpr (.inr (List.mem_flatMap.mpr ⟨q.toNat, List.mem_range.mpr (by omega), List.mem_flatMap.mpr ⟨a.toNat, List.mem_range.mpr (by omega), ?_⟩⟩))
  rw [Int.toNat_of_nonneg q0, Int.toNat_of_nonneg a0]
  exact ht
theorem mem_blank {a : Int} (a0 : 0 ≤ a) (am : a < M.m) : (⟨0, a, 0, a⟩ : Tl) ∈ M.tiles := by
  unfold Mach.tiles Mach.tilesN blanks
  refine List.mem_append.mpr (.inl (List.mem_map.mpr ⟨a.toNat, List.mem_range.mpr (by omega), ?_⟩))
  rw [Int.toNat_of_nonneg a0]
theorem mem_kind (h : M.Ok) {t : Tl} (k : Kind M t) : t ∈ M.tiles := by
  cases k with
  | blank a a0 am => exact mem_blank a0 am
  | left q a q0 qs a0 am => exact mem_cell q0 qs a0 am (by unfold Mach.cellT; simp)
  | right q a q0 qs a0 am => exact mem_cell q0 qs a0 am (by unfold Mach.cellT; simp)
  | go1 q a w q' q0 qs a0 am e => exact mem_cell q0 qs a0 am (by unfold Mach.cellT; rw [e]; simp [rowT])
  | go2 q a w q' q0 qs a0 am e => exact mem_cell q0 qs a0 am (by unfold Mach.cellT; rw [e]; simp [rowT])
end
end SD
end
section
set_option autoImplicit false
namespace SD
section
variable {M : Mach}
/-! ### no tile twice -/
theorem cellT_nd (q a : Int) (q0 : 0 ≤ q) (hr : rowOk M.m M.s (M.row q a)) : (M.cellT q a).Nodup := by
  unfold Mach.cellT
  cases er : M.row q a with
  | none =>
    simp [rowT]
    omega
  | some r =>
    obtain ⟨w, v, q'⟩ := r
    obtain ⟨_, _, hv, q0', _⟩ := hr w v q' er
    rcases hv with rfl | rfl
    · simp [rowT]
      omega
    · simp [rowT]
      omega
theorem cellT_kind (h : M.Ok) {q a : Int} (q0 : 0 ≤ q) (qs : q < M.s) (a0 : 0 ≤ a) (am : a < M.m) {t : Tl} (ht : t ∈ M.cellT q a) :
    t = ⟨0, M.L a q, 1 + 2 * q, a⟩ ∨ t = ⟨2 + 2 * q, M.L a q, 0, a⟩ ∨ (∃ w q', 0 ≤ q' ∧ w < M.m ∧ t = ⟨1 + 2 * q', w, 0, M.L a q⟩) ∨ ∃ w q', 0 ≤ q' ∧ w < M.m ∧ t = ⟨0, w, 2 + 2 * q', M.L a q⟩ := by
  unfold Mach.cellT at ht
  rcases List.mem_append.mp ht with ht | ht
  · rcases List.mem_cons.mp ht with rfl | ht
    · exact .inl rfl
    · rcases List.mem_cons.mp ht with rfl | ht
      · exact .inr (.inl rfl)
      · cases ht
  · have hr := row_ok h q0 qs a0 am
    cases er : M.row q a with
    | none => rw [er] at ht; cases ht
    | some r =>
      obtain ⟨w, v, q'⟩ := r
      rw [er] at ht
      obtain ⟨_, wm, hv, q0', _⟩ := hr w v q' er
      rcases hv with rfl | rfl
      · exact .inr (.inr (.inl ⟨w, q', q0', wm, by simpa [rowT] using ht⟩))
      · exact .inr (.inr (.inr ⟨w, q', q0', wm, by simpa [rowT] using ht⟩))
theorem cell_apart (h : M.Ok) {q a q' a' : Int} (q0 : 0 ≤ q) (qs : q < M.s) (a0 : 0 ≤ a) (am : a < M.m) (q0' : 0 ≤ q') (qs' : q' < M.s) (a0' : 0 ≤ a') (am' : a' < M.m)
    {t : Tl} (ht : t ∈ M.cellT q a) (ht' : t ∈ M.cellT q' a') : q = q' ∧ a = a' := by
  have b1 := (L_bound h q0 qs a0 am).1
  have b2 := (L_bound h q0' qs' a0' am').1
  have inj := fun e => L_inj h (q := q) (q' := q') a0 am a0' am' e
  rcases cellT_kind h q0 qs a0 am ht with rfl | rfl | ⟨w, p, p0, wm, rfl⟩ | ⟨w, p, p0, wm, rfl⟩ <;>
    rcases cellT_kind h q0' qs' a0' am' ht' with e | e | ⟨w', p', p0', wm', e⟩ | ⟨w', p', p0', wm', e⟩ <;>
      simp only [Tl.mk.injEq] at e <;> obtain ⟨e1, e2, e3, e4⟩ := e <;> first | exact inj e2 | exact inj e4 | (exfalso; omega)
theorem tiles_nd (h : M.Ok) : M.tiles.Nodup := by
  unfold Mach.tiles Mach.tilesN
  refine List.nodup_append.mpr ⟨?_, ?_, ?_⟩
  · unfold blanks
    unfold List.Nodup
    rw [List.pairwise_map]
    refine List.nodup_range.imp fun hne e => hne ?_
    simp only [Tl.mk.injEq] at e
    omega
  · unfold List.Nodup
    rw [List.pairwise_flatMap]
    constructor
    · intro q hq
      have hq := List.mem_range.mp hq
      unfold Mach.tilesQ
      rw [List.pairwise_flatMap]
      constructor
      · intro a ha
        have ha := List.mem_range.mp ha
        exact cellT_nd _ _ (by omega) (row_ok h (by omega) (by omega) (by omega) (by omega))
      · refine List.Pairwise.imp_of_mem (fun {a a'} ha ha' hne x hx y hy e => hne ?_) List.nodup_range
        have ha := List.mem_range.mp ha
        have ha' := List.mem_range.mp ha'
        subst e
        have := (cell_apart h (by omega) (by omega) (by omega) (by omega) (by omega) (by omega) (by omega) (by omega) hx hy).2
        omega
    · refine List.Pairwise.imp_of_mem (fun {q q'} hq hq' hne x hx y hy e => hne ?_) List.nodup_range
      have hq := List.mem_range.mp hq
      have hq' := List.mem_range.mp hq'
      subst e
      unfold Mach.tilesQ at hx hy
      obtain ⟨a, ha, hx⟩ := List.mem_flatMap.mp hx
      obtain ⟨a', ha', hy⟩ := List.mem_flatMap.mp hy
      have ha := List.mem_range.mp ha
      have ha' := List.mem_range.mp ha'
      have := (cell_apart h (by omega) (by omega) (by omega) (by omega) (by omega) (by omega) (by omega) (by omega) hx hy).1
      omega
  · intro x hx y hy e
    subst e
    unfold blanks at hx
    obtain ⟨b, hb, rfl⟩ := List.mem_map.mp hx
    obtain ⟨q, hq, hy⟩ := List.mem_flatMap.mp hy
    unfold Mach.tilesQ at hy
    obtain ⟨a, ha, hy⟩ := List.mem_flatMap.mp hy
    have hq := List.mem_range.mp hq
    have ha := List.mem_range.mp ha
    rcases cellT_kind h (by omega) (by omega) (by omega) (by omega) hy with e | e | ⟨w', p', p0', wm', e⟩ | ⟨w', p', p0', wm', e⟩ <;> simp only [Tl.mk.injEq] at e <;> omega

/-! ### ways don't meet -/
theorem apart (h : M.Ok) {ts : List Tl} (hp : ts.Perm M.tiles) : Apart ts := by
  have k : ∀ t ∈ ts, Kind M t := fun t ht => kind_of_mem h (hp.mem_iff.mp ht)
  refine ⟨hp.symm.nodup (tiles_nd h), fun t ht t' ht' es ew ne => ?_, fun t ht t' ht' es ne => ?_⟩
  · have k1 := k t ht
    have k2 := k t' ht'
    unfold live
    cases k1 with
    | blank a a0 am =>
      cases k2 with
      | blank a' a0' am' => exact absurd (by simp only at es; rw [es]) ne
      | left q' a' q0' qs' a0' am' => simp only at ew; omega
      | right q' a' q0' qs' a0' am' => simp only; omega
      | go1 q' a' w' p' q0' qs' a0' am' e' =>
        have := (L_bound h q0' qs' a0' am').1
        simp only at es; omega
      | go2 q' a' w' p' q0' qs' a0' am' e' =>
        have := (L_bound h q0' qs' a0' am').1
        simp only at es; omega
    | left q a q0 qs a0 am =>
      cases k2 with
      | blank a' a0' am' => simp only at ew; omega
      | left q' a' q0' qs' a0' am' =>
        simp only at es ew
        have : q = q' := by omega
        subst this es
        exact absurd rfl ne
      | right q' a' q0' qs' a0' am' => simp only at ew; omega
      | go1 q' a' w' p' q0' qs' a0' am' e' =>
        have := (L_bound h q0' qs' a0' am').1
        simp only at es; omega
      | go2 q' a' w' p' q0' qs' a0' am' e' =>
        have := (L_bound h q0' qs' a0' am').1
        simp only at es; omega
    | right q a q0 qs a0 am =>
      cases k2 with
      | blank a' a0' am' => simp only; omega
      | left q' a' q0' qs' a0' am' => simp only at ew; omega
      | right q' a' q0' qs' a0' am' =>
        simp only at es ⊢
        subst es
        have : q ≠ q' := fun e => ne (by rw [e])
        omega
      | go1 q' a' w' p' q0' qs' a0' am' e' =>
        have := (L_bound h q0' qs' a0' am').1
        simp only at es; omega
      | go2 q' a' w' p' q0' qs' a0' am' e' =>
        have := (L_bound h q0' qs' a0' am').1
        simp only at es; omega
    | go1 q a w p q0 qs a0 am e =>
      have hb := (L_bound h q0 qs a0 am).1
      cases k2 with
      | blank a' a0' am' => simp only at es; omega
      | left q' a' q0' qs' a0' am' => simp only at es; omega
      | right q' a' q0' qs' a0' am' => simp only at es; omega
      | go1 q' a' w' p' q0' qs' a0' am' e' =>
        simp only at es
        obtain ⟨i1, i2⟩ := L_inj h a0 am a0' am' es
        subst i1 i2
        rw [e] at e'
        simp only [Option.some.injEq, Prod.mk.injEq] at e'
        obtain ⟨j1, _, j2⟩ := e'
        subst j1 j2
        exact absurd rfl ne
      | go2 q' a' w' p' q0' qs' a0' am' e' =>
        simp only at es
        obtain ⟨i1, i2⟩ := L_inj h a0 am a0' am' es
        subst i1 i2
        rw [e] at e'
        simp only [Option.some.injEq, Prod.mk.injEq] at e'
        omega
    | go2 q a w p q0 qs a0 am e =>
      have hb := (L_bound h q0 qs a0 am).1
      cases k2 with
      | blank a' a0' am' => simp only at es; omega
      | left q' a' q0' qs' a0' am' => simp only at es; omega
      | right q' a' q0' qs' a0' am' => simp only at es; omega
      | go1 q' a' w' p' q0' qs' a0' am' e' =>
        simp only at es
        obtain ⟨i1, i2⟩ := L_inj h a0 am a0' am' es
        subst i1 i2
        rw [e] at e'
        simp only [Option.some.injEq, Prod.mk.injEq] at e'
        omega
      | go2 q' a' w' p' q0' qs' a0' am' e' =>
        simp only at es
        obtain ⟨i1, i2⟩ := L_inj h a0 am a0' am' es
        subst i1 i2
        rw [e] at e'
        simp only [Option.some.injEq, Prod.mk.injEq] at e'
        obtain ⟨j1, _, j2⟩ := e'
        subst j1 j2
        exact absurd rfl ne
  · have k1 := k t ht
    have k2 := k t' ht'
    unfold live
    have headT : ∀ {t t' : Tl} (q a : Int), 0 ≤ q → q < M.s → 0 ≤ a → a < M.m → Kind M t → Kind M t' → t.s = M.L a q → t'.s = M.L a q → t.w = t'.w := by
      intro t t' q a q0 qs a0 am k1 k2 e1 e2
      have hb := (L_bound h q0 qs a0 am).1
      have det : ∀ {u : Tl}, Kind M u → u.s = M.L a q → ∃ w v p, M.row q a = some (w, v, p) ∧ u.w = if v = 1 then 0 else 2 + 2 * p := by
        intro u ku eu
        cases ku with
        | blank a' a0' am' => simp only at eu; omega
        | left q' a' q0' qs' a0' am' => simp only at eu; omega
        | right q' a' q0' qs' a0' am' => simp only at eu; omega
        | go1 q' a' w' p' q0' qs' a0' am' e' =>
          simp only at eu
          obtain ⟨i1, i2⟩ := L_inj h a0' am' a0 am eu
          subst i1 i2
          exact ⟨w', 1, p', e', rfl⟩
        | go2 q' a' w' p' q0' qs' a0' am' e' =>
          simp only at eu
          obtain ⟨i1, i2⟩ := L_inj h a0' am' a0 am eu
          subst i1 i2
          exact ⟨w', -1, p', e', rfl⟩
      obtain ⟨w1, v1, p1, r1, u1⟩ := det k1 e1
      obtain ⟨w2, v2, p2, r2, u2⟩ := det k2 e2
      rw [r1] at r2
      simp only [Option.some.injEq, Prod.mk.injEq] at r2
      obtain ⟨_, j1, j2⟩ := r2
      rw [u1, u2, j1, j2]
    have liveM : ∀ {u : Tl}, Kind M u → u.s < M.m → (u.w = 0 ∨ u.w % 2 = 1) := by
      intro u ku hs
      cases ku with
      | blank a' a0' am' => exact .inl rfl
      | left q' a' q0' qs' a0' am' => simp only; omega
      | right q' a' q0' qs' a0' am' => exact .inl rfl
      | go1 q' a' w' p' q0' qs' a0' am' e' => exact .inl rfl
      | go2 q' a' w' p' q0' qs' a0' am' e' =>
        have := (L_bound h q0' qs' a0' am').1
        simp only at hs; omega
    by_cases hs : t.s < M.m
    · exact ⟨liveM k1 hs, liveM k2 (by rw [← es]; exact hs)⟩
    · exfalso
      apply ne
      cases id k1 with
      | blank a a0 am => simp only at hs; omega
      | left q a q0 qs a0 am => simp only at hs; omega
      | right q a q0 qs a0 am => simp only at hs; omega
      | go1 q a w p q0 qs a0 am e => exact headT q a q0 qs a0 am k1 k2 rfl es.symm
      | go2 q a w p q0 qs a0 am e => exact headT q a q0 qs a0 am k1 k2 rfl es.symm

/-! ### rows -/
def IsR (ts : List Tl) : List Int → Int → List Tl → Prop
  | [], w, r => w = 0 ∧ r = []
  | s :: f, w, r => ∃ t r', r = t :: r' ∧ t ∈ ts ∧ t.w = w ∧ t.s = s ∧ IsR ts f t.e r'
theorem mem_rowsF {ts : List Tl} : ∀ {f : List Int} {w : Int} {r : List Tl}, r ∈ rowsF ts f w ↔ IsR ts f w r
  | [], w, r => by
    unfold rowsF IsR
    by_cases h : w = 0 <;> simp [h]
  | s :: f, w, r => by
    unfold rowsF IsR
    rw [List.mem_flatMap]
    constructor
    · rintro ⟨t, ht, hr⟩
      obtain ⟨h1, h2⟩ := List.mem_filter.mp ht
      obtain ⟨r', hr', rfl⟩ := List.mem_map.mp hr
      have h2 := of_decide_eq_true h2
      exact ⟨t, r', rfl, h1, h2.1, h2.2, mem_rowsF.mp hr'⟩
    · rintro ⟨t, r', rfl, h1, h2, h3, h4⟩
      exact ⟨t, List.mem_filter.mpr ⟨h1, by simp [h2, h3]⟩, List.mem_map.mpr ⟨r', mem_rowsF.mpr h4, rfl⟩⟩
theorem isR_blank {ts : List Tl} {m : Int} (hb : ∀ a, 0 ≤ a → a < m → (⟨0, a, 0, a⟩ : Tl) ∈ ts) : ∀ (xs f : List Int) (r : List Tl), Marks m xs → IsR ts f 0 r →
    IsR ts (xs ++ f) 0 (xs.map (fun a => ⟨0, a, 0, a⟩) ++ r)
  | [], _, _, _, h => h
  | x :: xs, f, r, hm, h => by
    obtain ⟨a0, am⟩ := hm x (by simp)
    exact ⟨⟨0, x, 0, x⟩, _, rfl, hb x a0 am, rfl, rfl, isR_blank hb xs f r (fun y hy => hm y (List.mem_cons_of_mem _ hy)) h⟩
theorem norths_blank (xs : List Int) : (xs.map (fun a => (⟨0, a, 0, a⟩ : Tl))).map (·.n) = xs := by
  rw [List.map_map]
  exact List.map_id' _
/-- the one row of a floor, if there is one -/
theorem rows_one {ts : List Tl} (A : Apart ts) {f : List Int} {r : List Tl} (h : IsR ts f 0 r) : rowsF ts f 0 = [r] := by
  have h1 := rows_le_one A f
  have h2 := mem_rowsF.mpr h
  match e : rowsF ts f 0 with
  | [] => rw [e] at h2; cases h2
  | [x] =>
    rw [e] at h2
    simp at h2
    rw [h2]
  | _ :: _ :: _ => rw [e] at h1; simp at h1

/-- the floor of a configuration -/
def Mach.floor (M : Mach) (c : Cf) : List Int := 0 :: (M.line c ++ [0])
theorem woe_line (h : M.Ok) {c : Cf} (hc : c.Ok M) : woe (M.line c) = M.line c := by
  have hb := (L_bound h hc.q0 hc.qs hc.a0 hc.am).1
  have h2 := h.m2
  unfold Mach.line
  rw [woe_mid (by omega), hc.rt, ← trim_rev, hc.lt]
theorem trim_zero : trim [0] = [] := by simp [trim, dl]
theorem dl_snoc_zero_rev (l : List Int) : dl (0 :: l) = dl l := by simp [dl]
theorem step_some (h : M.Ok) {ts : List Tl} (hp : ts.Perm M.tiles) {c c' : Cf} (hc : c.Ok M) (e : M.next c = some c') :
    ∃ r, rowsF ts (M.floor c) 0 = [r] ∧ woe (r.map (·.n)) = M.line c' := by
  have A := apart h hp
  have mem : ∀ {t : Tl}, Kind M t → t ∈ ts := fun k => hp.mem_iff.mpr (mem_kind h k)
  have hbl : ∀ a, 0 ≤ a → a < M.m → (⟨0, a, 0, a⟩ : Tl) ∈ ts := fun a a0 am => mem (.blank a a0 am)
  have hc' := next_ok h hc e
  have h2 := h.m2
  have hb' := (L_bound h hc'.q0 hc'.qs hc'.a0 hc'.am).1
  have m0 : Marks M.m [0] := fun x hx => by simp at hx; omega
  have hrow := row_ok h hc.q0 hc.qs hc.a0 hc.am
  have hlr : Marks M.m c.l.reverse := fun x hx => hc.l x (List.mem_reverse.mp hx)
  unfold Mach.next at e
  cases er : M.row c.q c.a with
  | none => rw [er] at e; cases e
  | some rw_ =>
    obtain ⟨w, v, q⟩ := rw_
    rw [er] at e
    obtain ⟨w0, wm, hv, q0, qs⟩ := hrow w v q er
    rcases hv with rfl | rfl
    · -- to the right
      have e : some (⟨q, trim (w :: c.l), c.r.headD 0, c.r.tail⟩ : Cf) = some c' := by simpa using e
      cases e
      -- the head's cell and what is behind it
      have key : ∀ (b : Int) (rest : List Int), 0 ≤ b → b < M.m → Marks M.m rest → IsR ts (M.L c.a c.q :: b :: rest) 0 (⟨1 + 2 * q, w, 0, M.L c.a c.q⟩ :: ⟨0, M.L b q, 1 + 2 * q, b⟩ :: rest.map fun a => ⟨0, a, 0, a⟩) := by
        intro b rest b0 bm hrest
        refine ⟨_, _, rfl, mem (.go1 _ _ _ _ hc.q0 hc.qs hc.a0 hc.am er), rfl, rfl, _, _, rfl, mem (.left _ _ q0 qs b0 bm), rfl, rfl, ?_⟩
        have := isR_blank hbl rest [] [] hrest ⟨rfl, rfl⟩
        simpa using this
      cases hr : c.r with
      | nil =>
        have ef : M.floor c = (0 :: c.l.reverse) ++ (M.L c.a c.q :: 0 :: []) := by
          unfold Mach.floor Mach.line
          rw [hr]
          simp
        have R := isR_blank hbl (0 :: c.l.reverse) _ _ (fun x hx => by
          rcases List.mem_cons.mp hx with rfl | hx
          · omega
          · exact hlr x hx) (key 0 [] (by omega) (by omega) (fun x hx => by cases hx))
        refine ⟨_, by rw [ef]; exact rows_one A R, ?_⟩
        rw [List.map_append, norths_blank]
        have en : (0 :: c.l.reverse) ++ ((⟨1 + 2 * q, w, 0, M.L c.a c.q⟩ :: ⟨0, M.L 0 q, 1 + 2 * q, 0⟩ :: ([] : List Int).map fun a => (⟨0, a, 0, a⟩ : Tl))).map (·.n) = (0 :: (w :: c.l).reverse) ++ M.L 0 q :: [] := by simp
        rw [hr] at hb'
        rw [en, woe_mid (by simp at hb'; omega), dl_snoc_zero_rev, ← trim_rev]
        unfold Mach.line
        simp [trim, dl]
      | cons b r' =>
        have hrr : Marks M.m (b :: r') := by rw [← hr]; exact hc.r
        obtain ⟨b0, bm⟩ := hrr b (by simp)
        have ef : M.floor c = (0 :: c.l.reverse) ++ (M.L c.a c.q :: b :: (r' ++ [0])) := by
          unfold Mach.floor Mach.line
          rw [hr]
          simp
        have R := isR_blank hbl (0 :: c.l.reverse) _ _ (fun x hx => by
          rcases List.mem_cons.mp hx with rfl | hx
          · omega
          · exact hlr x hx) (key b (r' ++ [0]) b0 bm (fun x hx => by
          rcases List.mem_append.mp hx with hx | hx
          · exact hrr x (List.mem_cons_of_mem _ hx)
          · exact m0 x hx))
        refine ⟨_, by rw [ef]; exact rows_one A R, ?_⟩
        rw [List.map_append, norths_blank]
        have en : (0 :: c.l.reverse) ++ ((⟨1 + 2 * q, w, 0, M.L c.a c.q⟩ :: ⟨0, M.L b q, 1 + 2 * q, b⟩ :: (r' ++ [0]).map fun a => (⟨0, a, 0, a⟩ : Tl))).map (·.n) = (0 :: (w :: c.l).reverse) ++ M.L b q :: (r' ++ [0]) := by
          rw [List.map_cons, List.map_cons, norths_blank]
          simp
        have ht := hc'.rt
        rw [hr] at hb' ht
        simp only [List.headD_cons, List.tail_cons] at hb' ht
        rw [en, woe_mid (by omega), dl_snoc_zero_rev, ← trim_rev, trim_snoc_zero, ht]
        unfold Mach.line
        simp
    · -- to the left
      have e : some (⟨q, c.l.tail, c.l.headD 0, trim (w :: c.r)⟩ : Cf) = some c' := by simpa using e
      cases e
      have key : ∀ (b : Int), 0 ≤ b → b < M.m → IsR ts (b :: M.L c.a c.q :: (c.r ++ [0])) 0 (⟨2 + 2 * q, M.L b q, 0, b⟩ :: ⟨0, w, 2 + 2 * q, M.L c.a c.q⟩ :: (c.r ++ [0]).map fun a => ⟨0, a, 0, a⟩) := by
        intro b b0 bm
        refine ⟨_, _, rfl, mem (.right _ _ q0 qs b0 bm), rfl, rfl, _, _, rfl, mem (.go2 _ _ _ _ hc.q0 hc.qs hc.a0 hc.am er), rfl, rfl, ?_⟩
        have := isR_blank hbl (c.r ++ [0]) [] [] (fun x hx => by
          rcases List.mem_append.mp hx with hx | hx
          · exact hc.r x hx
          · exact m0 x hx) ⟨rfl, rfl⟩
        simpa using this
      have tl : trim (w :: (c.r ++ [0])) = trim (w :: c.r) := by
        rw [← List.cons_append, trim_snoc_zero]
      cases hl : c.l with
      | nil =>
        have ef : M.floor c = [] ++ (0 :: M.L c.a c.q :: (c.r ++ [0])) := by
          unfold Mach.floor Mach.line
          rw [hl]
          simp
        have R := isR_blank hbl [] _ _ (fun x hx => by cases hx) (key 0 (by omega) (by omega))
        refine ⟨_, by rw [ef]; exact rows_one A R, ?_⟩
        have en : List.map (fun t : Tl => t.n) ((([] : List Int).map fun a => (⟨0, a, 0, a⟩ : Tl)) ++ ((⟨2 + 2 * q, M.L 0 q, 0, 0⟩ : Tl) :: ⟨0, w, 2 + 2 * q, M.L c.a c.q⟩ :: (c.r ++ [0]).map fun a => (⟨0, a, 0, a⟩ : Tl))) = [] ++ M.L 0 q :: (w :: (c.r ++ [0])) := by
          rw [List.map_nil, List.nil_append, List.map_cons, List.map_cons, norths_blank]
          simp
        rw [hl] at hb'
        simp only [List.headD_nil] at hb'
        rw [en, woe_mid (by omega), tl]
        unfold Mach.line
        simp [dl]
      | cons b l' =>
        have hll : Marks M.m (b :: l') := by rw [← hl]; exact hc.l
        obtain ⟨b0, bm⟩ := hll b (by simp)
        have ef : M.floor c = (0 :: l'.reverse) ++ (b :: M.L c.a c.q :: (c.r ++ [0])) := by
          unfold Mach.floor Mach.line
          rw [hl]
          simp
        have R := isR_blank hbl (0 :: l'.reverse) _ _ (fun x hx => by
          rcases List.mem_cons.mp hx with rfl | hx
          · omega
          · exact hll x (List.mem_cons_of_mem _ (List.mem_reverse.mp hx))) (key b b0 bm)
        refine ⟨_, by rw [ef]; exact rows_one A R, ?_⟩
        rw [List.map_append, norths_blank]
        have en : (0 :: l'.reverse) ++ List.map (fun t : Tl => t.n) ((⟨2 + 2 * q, M.L b q, 0, b⟩ : Tl) :: ⟨0, w, 2 + 2 * q, M.L c.a c.q⟩ :: (c.r ++ [0]).map fun a => (⟨0, a, 0, a⟩ : Tl)) = (0 :: l'.reverse) ++ M.L b q :: (w :: (c.r ++ [0])) := by
          rw [List.map_cons, List.map_cons, norths_blank]
        have ht := hc'.lt
        rw [hl] at hb' ht
        simp only [List.headD_cons, List.tail_cons] at hb' ht
        rw [en, woe_mid (by omega), tl, dl_snoc_zero_rev, ← trim_rev, ht]
        unfold Mach.line
        simp
theorem isR_cell {ts : List Tl} : ∀ {f : List Int} {w : Int} {r : List Tl} {x : Int}, IsR ts f w r → x ∈ f → ∃ t ∈ ts, t.s = x
  | [], _, _, _, _, hx => by cases hx
  | s :: f, w, r, x, h, hx => by
    obtain ⟨t, r', _, ht, _, hs, h'⟩ := h
    rcases List.mem_cons.mp hx with rfl | hx
    · exact ⟨t, ht, hs⟩
    · exact isR_cell h' hx
theorem step_none (h : M.Ok) {ts : List Tl} (hp : ts.Perm M.tiles) {c : Cf} (hc : c.Ok M) (e : M.next c = none) : rowsF ts (M.floor c) 0 = [] := by
  have er : M.row c.q c.a = none := by
    unfold Mach.next at e
    cases er : M.row c.q c.a with
    | none => rfl
    | some r =>
      obtain ⟨w, v, q⟩ := r
      rw [er] at e
      by_cases h1 : v = 1 <;> simp [h1] at e
  cases q : rowsF ts (M.floor c) 0 with
  | nil => rfl
  | cons r rs =>
    exfalso
    have hr : r ∈ rowsF ts (M.floor c) 0 := by rw [q]; simp
    obtain ⟨t, ht, hs⟩ := isR_cell (mem_rowsF.mp hr) (x := M.L c.a c.q) (by unfold Mach.floor Mach.line; simp)
    have k := kind_of_mem h (hp.mem_iff.mp ht)
    have hb := (L_bound h hc.q0 hc.qs hc.a0 hc.am).1
    cases k with
    | blank a' a0' am' => simp only at hs; omega
    | left q' a' q0' qs' a0' am' => simp only at hs; omega
    | right q' a' q0' qs' a0' am' => simp only at hs; omega
    | go1 q' a' w' p' q0' qs' a0' am' e' =>
      obtain ⟨i1, i2⟩ := L_inj h a0' am' hc.a0 hc.am hs
      rw [i1, i2, er] at e'; cases e'
    | go2 q' a' w' p' q0' qs' a0' am' e' =>
      obtain ⟨i1, i2⟩ := L_inj h a0' am' hc.a0 hc.am hs
      rw [i1, i2, er] at e'; cases e'
end
end SD
end
section
set_option autoImplicit false
namespace SD
section
variable {M : Mach}
/-! ### the same rows whatever the order of the tiles -/
theorem isR_perm {ts ts' : List Tl} (h : ∀ t, t ∈ ts ↔ t ∈ ts') : ∀ {f : List Int} {w : Int} {r : List Tl}, IsR ts f w r → IsR ts' f w r
  | [], _, _, q => q
  | _ :: _, _, _, ⟨t, r', e, h1, h2, h3, h4⟩ => ⟨t, r', e, (h t).mp h1, h2, h3, isR_perm h h4⟩
theorem rows_perm {ts ts' : List Tl} (A : Apart ts) (A' : Apart ts') (h : ∀ t, t ∈ ts ↔ t ∈ ts') (f : List Int) : rowsF ts f 0 = rowsF ts' f 0 := by
  cases e : rowsF ts f 0 with
  | nil =>
    cases e' : rowsF ts' f 0 with
    | nil => rfl
    | cons r rs =>
      have h1 : r ∈ rowsF ts' f 0 := by rw [e']; simp
      have h2 := mem_rowsF.mpr (isR_perm (fun t => (h t).symm) (mem_rowsF.mp h1))
      rw [e] at h2
      cases h2
  | cons r rs =>
    have h1 : r ∈ rowsF ts f 0 := by rw [e]; simp
    have h2 := rows_one A (mem_rowsF.mp h1)
    have h3 := rows_one A' (isR_perm h (mem_rowsF.mp h1))
    rw [h3, ← h2, e]

/-! ### the strip's step -/
def fl (line : List Int) : List Int := 0 :: (line ++ [0])
def stepO (ts : List Tl) (line : List Int) : Option (List Int) := match rowsF ts (fl line) 0 with
  | [] => none
  | r :: _ => some (woe (r.map (·.n)))
theorem stepO_line (h : M.Ok) {ts : List Tl} (hp : ts.Perm M.tiles) {c : Cf} (hc : c.Ok M) : stepO ts (M.line c) = (M.next c).map M.line := by
  unfold stepO
  show (match rowsF ts (M.floor c) 0 with | [] => (none : Option (List Int)) | r :: _ => some (woe (r.map fun t : Tl => t.n))) = _
  cases e : M.next c with
  | none => rw [step_none h hp hc e]; rfl
  | some c' =>
    obtain ⟨r, h1, h2⟩ := step_some h hp hc e
    rw [h1]
    show some (woe (r.map (·.n))) = some (M.line c')
    rw [h2]
theorem isR_len {ts : List Tl} : ∀ {f : List Int} {w : Int} {r : List Tl}, IsR ts f w r → r.length = f.length
  | [], _, _, ⟨_, e⟩ => by rw [e]; rfl
  | _ :: f, _, _, ⟨t, r', e, _, _, _, h⟩ => by rw [e, List.length_cons, List.length_cons, isR_len h]
theorem woe_len (xs : List Int) : (woe xs).length ≤ xs.length := by
  unfold woe
  exact Nat.le_trans (trim_len _) (dl_len _)
theorem stepO_len {ts : List Tl} {line l' : List Int} (h : stepO ts line = some l') : l'.length ≤ line.length + 2 := by
  unfold stepO at h
  cases e : rowsF ts (fl line) 0 with
  | nil => rw [e] at h; cases h
  | cons r rs =>
    rw [e] at h
    have hr : r ∈ rowsF ts (fl line) 0 := by rw [e]; simp
    have h1 := isR_len (mem_rowsF.mp hr)
    have h2 : woe (r.map (·.n)) = l' := Option.some.inj h
    rw [← h2]
    have h3 := woe_len (r.map (·.n))
    rw [List.length_map, h1] at h3
    unfold fl at h3
    simp at h3
    omega
def runO (ts : List Tl) : Nat → List Int → List Int × Nat
  | 0, line => (line, 0)
  | n + 1, line => match stepO ts line with
    | none => (line, 0)
    | some l' => ((runO ts n l').1, (runO ts n l').2 + 1)

/-! ### the machine's run -/
def Mach.runM (M : Mach) : Nat → Cf → List Cf
  | 0, c => [c]
  | n + 1, c => match M.next c with
    | none => [c]
    | some c' => c :: M.runM n c'
def Mach.lastM (M : Mach) : Nat → Cf → Cf
  | 0, c => c
  | n + 1, c => match M.next c with
    | none => c
    | some c' => M.lastM n c'
theorem runM_len : ∀ (n : Nat) (c : Cf), 1 ≤ (M.runM n c).length ∧ (M.runM n c).length ≤ n + 1
  | 0, c => by simp [Mach.runM]
  | n + 1, c => by
    unfold Mach.runM
    cases e : M.next c with
    | none => simp
    | some c' =>
      have := runM_len n c'
      simp only [List.length_cons]
      omega
theorem runM_head (n : Nat) (c : Cf) : (M.runM n c)[0]? = some c := by
  cases n with
  | zero => rfl
  | succ n =>
    unfold Mach.runM
    cases e : M.next c <;> rfl
theorem runM_next : ∀ (n : Nat) (c : Cf) (k : Nat) (a b : Cf), (M.runM n c)[k]? = some a → (M.runM n c)[k + 1]? = some b → M.next a = some b
  | 0, c, k, a, b, h1, h2 => by simp [Mach.runM] at h2
  | n + 1, c, k, a, b, h1, h2 => by
    unfold Mach.runM at h1 h2
    cases e : M.next c with
    | none => rw [e] at h2; simp at h2
    | some c' =>
      rw [e] at h1 h2
      cases k with
      | zero =>
        have h1 : c = a := by simpa using h1
        have h2 : (M.runM n c')[0]? = some b := by simpa using h2
        rw [runM_head] at h2
        rw [← h1, e]
        exact h2
      | succ k => exact runM_next n c' k a b (by simpa using h1) (by simpa using h2)
theorem runM_last : ∀ (n : Nat) (c : Cf), (M.runM n c)[(M.runM n c).length - 1]? = some (M.lastM n c) ∧ ((M.runM n c).length ≤ n → M.next (M.lastM n c) = none)
  | 0, c => ⟨rfl, fun h => by simp [Mach.runM] at h⟩
  | n + 1, c => by
    unfold Mach.runM Mach.lastM
    cases e : M.next c with
    | none => exact ⟨rfl, fun _ => e⟩
    | some c' =>
      obtain ⟨h1, h2⟩ := runM_last n c'
      have h3 := (runM_len (M := M) n c').1
      constructor
      · show (c :: M.runM n c')[(c :: M.runM n c').length - 1]? = _
        have : (c :: M.runM n c').length - 1 = ((M.runM n c').length - 1) + 1 := by
          rw [List.length_cons]
          omega
        rw [this, List.getElem?_cons_succ]
        exact h1
      · intro h
        exact h2 (by simpa using h)
theorem runM_mem (h : M.Ok) : ∀ (n : Nat) {c : Cf}, c.Ok M → ∀ a ∈ M.runM n c, a.Ok M
  | 0, c, hc, a, ha => by
    have : a = c := by simpa [Mach.runM] using ha
    rw [this]; exact hc
  | n + 1, c, hc, a, ha => by
    unfold Mach.runM at ha
    cases e : M.next c with
    | none =>
      rw [e] at ha
      have : a = c := by simpa using ha
      rw [this]; exact hc
    | some c' =>
      rw [e] at ha
      rcases List.mem_cons.mp ha with rfl | ha
      · exact hc
      · exact runM_mem h n (next_ok h hc e) a ha
theorem next_len {c c' : Cf} (e : M.next c = some c') : c'.l.length + c'.r.length ≤ c.l.length + c.r.length + 1 := by
  unfold Mach.next at e
  cases er : M.row c.q c.a with
  | none => rw [er] at e; cases e
  | some r =>
    obtain ⟨w, v, q⟩ := r
    rw [er] at e
    by_cases h1 : v = 1
    · have e : some (⟨q, trim (w :: c.l), c.r.headD 0, c.r.tail⟩ : Cf) = some c' := by simpa [h1] using e
      cases e
      have := trim_len (w :: c.l)
      simp only [List.length_cons, List.length_tail] at this ⊢
      omega
    · have e : some (⟨q, c.l.tail, c.l.headD 0, trim (w :: c.r)⟩ : Cf) = some c' := by simpa [h1] using e
      cases e
      have := trim_len (w :: c.r)
      simp only [List.length_cons, List.length_tail] at this ⊢
      omega
theorem runM_size : ∀ (n : Nat) (c a : Cf), a ∈ M.runM n c → a.l.length + a.r.length ≤ c.l.length + c.r.length + n
  | 0, c, a, ha => by
    have : a = c := by simpa [Mach.runM] using ha
    rw [this]; omega
  | n + 1, c, a, ha => by
    unfold Mach.runM at ha
    cases e : M.next c with
    | none =>
      rw [e] at ha
      have : a = c := by simpa using ha
      rw [this]; omega
    | some c' =>
      rw [e] at ha
      rcases List.mem_cons.mp ha with rfl | ha
      · omega
      · have := runM_size n c' a ha
        have := next_len e
        omega
theorem runO_line (h : M.Ok) {ts : List Tl} (hp : ts.Perm M.tiles) : ∀ (n : Nat) {c : Cf}, c.Ok M → runO ts n (M.line c) = (M.line (M.lastM n c), (M.runM n c).length - 1)
  | 0, c, _ => rfl
  | n + 1, c, hc => by
    unfold runO Mach.lastM Mach.runM
    rw [stepO_line h hp hc]
    cases e : M.next c with
    | none => rfl
    | some c' =>
      have ih := runO_line h hp n (next_ok h hc e)
      have h1 := (runM_len (M := M) n c').1
      show ((runO ts n (M.line c')).1, (runO ts n (M.line c')).2 + 1) = (M.line (M.lastM n c'), (c :: M.runM n c').length - 1)
      rw [ih]
      show (M.line (M.lastM n c'), (M.runM n c').length - 1 + 1) = _
      rw [List.length_cons]
      congr 1
      omega

/-! ### what a line means -/
def heads (m : Int) (xs : List Int) (n : Nat) : List Nat := (List.range n).filter fun i => decide (m ≤ xs.getD i 0)
theorem heads_succ (m : Int) (xs : List Int) (n : Nat) : heads m xs (n + 1) = heads m xs n ++ (if m ≤ xs.getD n 0 then [n] else []) := by
  unfold heads
  rw [List.range_succ, List.filter_append]
  congr 1
  by_cases h : m ≤ xs.getD n 0
  · rw [if_pos h, List.filter_cons, if_pos (by simpa using h), List.filter_nil]
  · rw [if_neg h, List.filter_cons, if_neg (by simpa using h), List.filter_nil]
theorem heads_line (h : M.Ok) {c : Cf} (hc : c.Ok M) : heads M.m (M.line c) (M.line c).length = [c.l.length] := by
  have hb := (L_bound h hc.q0 hc.qs hc.a0 hc.am).1
  have key : ∀ n, n ≤ (M.line c).length → heads M.m (M.line c) n = if c.l.length < n then [c.l.length] else [] := by
    intro n
    induction n with
    | zero => intro _; simp [heads]
    | succ n ih =>
      intro hn
      rw [heads_succ, ih (by omega)]
      have hx : (M.line c).getD n 0 = if n < c.l.length then c.l.reverse.getD n 0 else if n = c.l.length then M.L c.a c.q else c.r.getD (n - c.l.length - 1) 0 := by
        unfold Mach.line
        rw [List.getD_eq_getElem?_getD, List.getElem?_append, List.length_reverse]
        by_cases h1 : n < c.l.length
        · rw [if_pos h1, if_pos h1, List.getD_eq_getElem?_getD]
        · rw [if_neg h1, if_neg h1]
          by_cases h2 : n = c.l.length
          · rw [if_pos h2, h2]
            simp
          · rw [if_neg h2, List.getD_eq_getElem?_getD]
            have : n - c.l.length = (n - c.l.length - 1) + 1 := by omega
            rw [this, List.getElem?_cons_succ]
            simp
      have hlen : (M.line c).length = c.l.length + 1 + c.r.length := by
        unfold Mach.line
        simp
        omega
      rw [hx]
      by_cases h1 : n < c.l.length
      · rw [if_pos h1]
        have hm : c.l.reverse.getD n 0 ∈ c.l := by
          have h3 : n < c.l.reverse.length := by rw [List.length_reverse]; exact h1
          rw [List.getD_eq_getElem?_getD, List.getElem?_eq_getElem h3]
          exact List.mem_reverse.mp (List.getElem_mem h3)
        have := hc.l _ hm
        rw [if_neg (show ¬ M.m ≤ c.l.reverse.getD n 0 by omega), if_neg (by omega), if_neg (by omega)]
        rfl
      · rw [if_neg h1]
        by_cases h2 : n = c.l.length
        · rw [if_pos h2, if_pos hb, if_neg (by omega), if_pos (by omega), h2]
          rfl
        · rw [if_neg h2]
          have hm : c.r.getD (n - c.l.length - 1) 0 ∈ c.r := by
            have h3 : n - c.l.length - 1 < c.r.length := by omega
            rw [List.getD_eq_getElem?_getD, List.getElem?_eq_getElem h3]
            exact List.getElem_mem h3
          have := hc.r _ hm
          rw [if_neg (show ¬ M.m ≤ c.r.getD (n - c.l.length - 1) 0 by omega), if_pos (by omega), if_pos (by omega)]
          rfl
  rw [key _ (Nat.le_refl _), if_pos (by unfold Mach.line; simp)]
theorem line_at (c : Cf) : (M.line c)[c.l.length]? = some (M.L c.a c.q) ∧ (M.line c).take c.l.length = c.l.reverse ∧ (M.line c).drop (c.l.length + 1) = c.r := by
  unfold Mach.line
  refine ⟨by simp, by simp, ?_⟩
  rw [List.drop_append]
  simp
theorem line_len (c : Cf) : (M.line c).length = c.l.length + 1 + c.r.length := by
  unfold Mach.line
  simp
  omega
end
end SD
end
section
set_option Elab.async false
set_option linter.all false
set_option maxRecDepth 100000
set_option maxHeartbeats 4000000
/-! enumerate(t), t a tuple -/
namespace SDR
open PySem PySem.Spec PyProof.Rows L2
theorem meets_enum1 {v : Value} {o : Obj} {H : Heap → Prop} (B : Begins v o H) :
    Meets (Builtin.«enumerate.__new__» ⟨[.type "enumerate", v], []⟩) (fun _ R s => H s.heap ∧
      R (.ok (.ret (.ref (s.heap.push o).objs.size))) { s with heap := (s.heap.push o).push { cls := .type "enumerate", data := .fields #[.none, .bool false, .ref s.heap.objs.size, rawInt 0, .none, .none] } }) :=
  .of_wp fun prog w A R s h => by
    obtain ⟨hp, g, d, tk, os⟩ := s; obtain ⟨h1, h⟩ := h
    have hsub := sub_enumerate
    have q1 : ∀ {A' : Around} {E : Value → Shared → Prop} {Q : Value → Shared → Prop}, Q (.ref hp.objs.size) ⟨hp.push o, g, d, tk, os⟩ → wpAny (model prog w) A' (pyIter v) Q E ⟨hp, g, d, tk, os⟩ :=
      fun q => B.iter prog w _ _ ⟨hp, g, d, tk, os⟩ _ h1 q
    wp_walk using q1
    refine wpAny_stack_any fun st => wpAny_pure ?_
    split
    · rename_i c _ _ _ _ _
      cases (c == Value.type "enumerate")
      · wp_walk using q1
        exact ⟨_, rfl, h⟩
      · wp_walk using q1
        exact ⟨_, rfl, h⟩
    · wp_walk using q1
      exact ⟨_, rfl, h⟩
theorem enum1_begins {prog : Program} {w : World} {A : Around} {E : Value → Shared → Prop} {s : Shared} {v : Value} {o : Obj} {H : Heap → Prop} {Q : Value → Shared → Prop} (B : Begins v o H) (h1 : H s.heap)
    (h : ∀ h', IsEnum h' (s.heap.objs.size + 1) s.heap.objs.size 0 .none → h'.get? s.heap.objs.size = some o → h'.objs.size = s.heap.objs.size + 2 →
      (∀ b o, s.heap.get? b = some o → h'.get? b = some o) → Q (.ref (s.heap.objs.size + 1)) { s with heap := h' }) :
    wpAny (model prog w) A (call (.type "enumerate") [v]) Q E s := by
  refine callType_new F.called_enumerate (by decide) (F.typeCall_enumerate_1 _) (F.newCall_enumerate_1 _) (fun obj => F.args_object_init_2 obj _) F.entry_enumerate_new
    (meets_enum1 B) ⟨h1, ?_⟩
  have hz : (s.heap.push o).objs.size = s.heap.objs.size + 1 := Heap.size_push ..
  show _ ∧ _
  rw [hz]
  have he : IsEnum ((s.heap.push o).push { cls := .type "enumerate", data := .fields #[.none, .bool false, .ref s.heap.objs.size, rawInt 0, .none, .none] }) (s.heap.objs.size + 1) s.heap.objs.size 0 .none := by
    have := Heap.get?_push_size (s.heap.push o) (o := { cls := .type "enumerate", data := .fields #[.none, .bool false, .ref s.heap.objs.size, rawInt 0, .none, .none] }) rfl
    rw [hz] at this; exact this
  refine ⟨⟨_, he, rfl⟩, h _ he (Heap.get?_push_of_some _ (Heap.get?_push_size _ B.free)) (by rw [Heap.size_push, hz]) fun b o x => Heap.get?_push_of_some _ (Heap.get?_push_of_some _ x)⟩

def IteT (K : PySem.W.Frag) (a : Addr) : It :=
  ⟨fun i H => ∃ (xs : List V) (x : V), SqT K H a xs ∧ xs[i]? = some x, fun i H v H' => ∃ T x, v = .ref T ∧ H T = none ∧ H' = upd H T (.tup [.int (i : Nat), x]) ∧ ∀ xs, SqT K H a xs → xs[i]? = some x, fun i H => ∃ xs : List V, SqT K H a xs ∧ xs.length ≤ i⟩
theorem turn_enumT {P : Program} {w : World} {K : PySem.W.Frag} {elts : List Expr} {kk : Nat} {tpos : Pos} (a e it : Addr) :
    Turn P w K (.Tuple elts kk tpos) (IteT K a) [e, it] e (fun i h => (∃ old, IsEnum h e it ((i : Nat) : Int) old) ∧ h.IsTupleIter it a i ∧ e ≠ it) where
  mem := by simp
  obj := fun i h st b hb => by
    obtain ⟨⟨old, he⟩, ⟨o, ho, hc, hd⟩, _⟩ := st
    have e' : b = e ∨ b = it := by simpa using hb
    rcases e' with z | z
    · rw [z]; exact ⟨_, he, fun v q => nomatch q⟩
    · rw [z]; exact ⟨o, ho, fun v q => by rw [hd] at q; cases q⟩
  keep := fun i h h' st k => let ⟨⟨old, he⟩, hi, hne⟩ := st; ⟨⟨old, k e (by simp) _ he⟩, hi.at fun o q => k it (by simp) o q, hne⟩
  item := by
    intro X hP hw hK hc i pins s σ H E I hf st hg
    subst hP hw hK
    obtain ⟨⟨old, he⟩, hit, hne⟩ := st
    obtain ⟨xs, x, hq, hx⟩ := hg
    obtain ⟨its, rv, p, hz⟩ := I.tuple hq
    obtain ⟨u, hu, ru⟩ := rv.get hx
    have hel : e < s.heap.objs.size := Heap.lt_size he
    have hil : it < s.heap.objs.size := by obtain ⟨_, q, _⟩ := hit; exact Heap.lt_size q
    have hae : e ≠ a := fun z => by
      obtain ⟨o, ho, hoc, _⟩ := p
      rw [← z] at ho
      have he' : s.heap.get? e = some _ := he
      rw [he'] at ho
      cases ho
      exact absurd hoc (by simp)
    have hai : a ≠ it := fun z => by
      obtain ⟨o, ho, hoc, _⟩ := p
      obtain ⟨o2, ho2, hoc2, _⟩ := id hit
      rw [z, ho2] at ho
      cases ho
      rw [hoc2] at hoc
      exact absurd hoc (by simp)
    have hlt : i < its.toArray.size := by
      have := (List.getElem?_eq_some_iff.mp hx).1
      rw [List.size_toArray, ← rv.length]
      exact this
    refine wpAny_pyNext_enum_itemD (Draws.tuple (A := X.A.in1) (I.ok.hd hc) it a hai its.toArray) he ⟨hit, (show s.heap.IsTuple a its.toArray from p)⟩ hlt hne (by simp [hne, hae]) fun x' h' tk hP ho hit' hT hsz hk => ?_
    have ex : x' = u := by
      have h1 : its.toArray[i]? = some x' := hP
      have h2 : its.toArray[i]? = some u := by simpa using hu
      rw [h1] at h2
      exact Option.some.inj h2
    subst ex
    refine ⟨_, rfl, wpAny_letOwnedTupleGo_enum (s := { s with heap := h', toks := tk + 1 }) ho fun h'' he' sb => ?_⟩
    have hT2 : h''.get? s.heap.objs.size = some { cls := .type "tuple", data := .seq #[.int i tk, x'] } := (sb.2 _ (Nat.ne_of_gt hel)).trans hT
    have new : ObjOk X.prog X.w (upd H s.heap.objs.size (.tup [.int (i : Nat), x])) h'' s.heap.objs.size (.tup [.int (i : Nat), x]) :=
      ⟨by show 2 ≤ sizeLine; decide, [.int i tk, x'], .cons ⟨_, rfl⟩ (.cons ru .nil), ⟨_, hT2, rfl, _, rfl⟩⟩
    have I1 : Inv X pins σ (upd H s.heap.objs.size (.tup [.int (i : Nat), x])) { s with heap := h'', toks := tk + 1 } :=
      I.turnedNew (ch := [e, it]) (fun b ob hb q => (sb.2 b (fun z => hb (by simp [z]))).trans (hk b ob (fun z => hb (by simp [z])) (fun z => hb (by simp [z])) q)) hf (Nat.le_refl _) new
    refine ⟨.ref s.heap.objs.size, _, I1, rfl, ⟨_, x, rfl, I.hok.fresh (Nat.le_refl _), rfl, fun ys hy => by rw [I.tuple_inj hy hq]; exact hx⟩, ⟨⟨x', ?_⟩, hit'.1.at fun o q => (sb.2 it (Ne.symm hne)).trans q, hne⟩, fun b hb => ?_⟩
    · have e1 : ((i + 1 : Nat) : Int) = (i : Int) + 1 := by omega
      rw [e1]; exact he'
    · have hb' : b < s.heap.objs.size := by
        have e' : b = e ∨ b = it := by simpa using hb
        rcases e' with z | z
        · rw [z]; exact hel
        · rw [z]; exact hil
      rw [upd_ne (Nat.ne_of_lt hb')]
      exact (hf b hb).1
  done := by
    intro X hP hw hK hc i pins s σ H E I hf st hg
    subst hP hw hK
    obtain ⟨⟨old, he⟩, hit, hne⟩ := st
    obtain ⟨xs, hq, hx⟩ := hg
    obtain ⟨its, rv, p, hz⟩ := I.tuple hq
    obtain ⟨f0, f1, f2, f3, f4, f5⟩ := hf it (by simp)
    have hl := rv.length
    have hai : a ≠ it := fun z => by
      obtain ⟨o, ho, hoc, _⟩ := p
      obtain ⟨o2, ho2, hoc2, _⟩ := id hit
      rw [z, ho2] at ho
      cases ho
      rw [hoc2] at hoc
      exact absurd hoc (by simp)
    have hT : s.TypeIs (.ref e) "enumerate" := ⟨_, he, rfl⟩
    unfold pyNext
    refine wpAny_bind (wpAny_attempt (wpAny_callSpecial?_slot (name := Str.ofString "__next__") hT F.slot_enumerate_next
      (wpAny_call_entry F.slot_enumerate_next hT F.entry_enumerate_next ?_ (F.args_enumerate_next_1 _))))
    show wpAny _ _ (field (.ref e) 2 >>= _) _ _ _
    refine wpAny_bind (wpAny_field he rfl (x := .ref it) rfl ?_)
    refine wpAny_bind (wpAny_nextOf_tuple_end (A := X.A.in1) (I.ok.hd hc) hit (show s.heap.IsTuple a its.toArray from p) (by simp; omega) fun h' x he' hx' => ?_)
    obtain ⟨o, ho, hc⟩ := hx'
    refine wpAny_bind (wpAny_isInstance (T := "StopIteration") (b := true) ⟨o, ho, hc⟩ isSubtype_stop ?_)
    exact wpAny_pure ⟨rfl, I.turned (t' := s.toks) (fun b o hb q => he' b o hb q) f0 f1 f3 f4 f5⟩
  self := fun A i s Q E st h => let ⟨⟨_, he⟩, _⟩ := st; wpAny_pyIter_enum he h
def iEnumT (K : PySem.W.Frag) (ta : TA) : TI := fun σ H R => ta σ H fun vs H1 => ∃ a xs, vs = [.ref a] ∧ SqT K H1 a xs ∧ R (IteT K a) H1
theorem pi_enumT {X : Cx} {e : Expr} {ta : TA} {p pos tpos : Pos} {elts : List Expr} {kk : Nat} (hg : Gl X "enumerate") (hm : X.mg "enumerate" = none) (ha : PA X [e] ta) (hs : starEach [e] X.env = [(false, eval e X.env)] := by rfl) :
    PI X (.Tuple elts kk tpos) (.Call (.Name "enumerate" p) [e] [] pos) (iEnumT X.K ta) := by
  refine ⟨fun pins s σ H R I h => ?_⟩
  refine Call_ (ld_blt I hg hm boot_enumerate (PyProof.Rows.callWith_type1 (thn (ha.run pos pins s σ H _ I h) fun us s1 ⟨vs, H1, I1, r1, q1⟩ => ?_) hs rfl))
  obtain ⟨a, xs, ex, hq, q⟩ := q1
  subst ex
  cases r1 with
  | cons r rr =>
    cases rr
    cases r
    obtain ⟨its, rv, p', hz⟩ := I1.tuple hq
    refine enum1_begins (begins_tuple a its.toArray) (show s1.heap.IsTuple a its.toArray from p') fun h' he hit hsz hk => wpAny_pyIter_enum he ?_
    have I2 : Inv X pins σ H1 { s1 with heap := h' } := I1.kept (t' := s1.toks) hk
    refine ⟨s1.heap.objs.size + 1, [s1.heap.objs.size + 1, s1.heap.objs.size], _, _, H1, rfl, I2, turn_enumT a (s1.heap.objs.size + 1) s1.heap.objs.size, ⟨⟨.none, he⟩, ⟨_, hit, rfl, rfl⟩, Nat.succ_ne_self _⟩, fun b hb => ?_, q⟩
    have e' : b = s1.heap.objs.size + 1 ∨ b = s1.heap.objs.size := by simpa using hb
    have hle : s1.heap.objs.size ≤ b := by
      rcases e' with z | z
      · rw [z]; exact Nat.le_add_right _ _
      · rw [z]; exact Nat.le_refl _
    exact I1.fpOk hle (I1.hok.fresh hle)
theorem for_IteT {K : PySem.W.Frag} {a : Addr} {xs : List V} {g : TG} {tb : TS} {D : Ends} {σ : L2.St} {H : Hp} (Pv : Nat → L2.St → Hp → Prop) (h0 : Pv 0 σ H) (hq : ∀ i σ H, Pv i σ H → SqT K H a xs)
    (hs : ∀ (i : Nat) (x : V) (T : Addr) (σ : L2.St) (H : Hp), xs[i]? = some x → Pv i σ H → H T = none → g (.ref T) σ (upd H T (.tup [.int (i : Nat), x])) fun σ2 H2 => tb { D with nx := Pv (i + 1), ct := Pv (i + 1), bk := D.nx } σ2 H2) (hd : ∀ σ H, Pv xs.length σ H → D.nx σ H) :
    ∃ W : Nat → Nat → L2.St → Hp → Prop, (∃ m, W 0 m σ H) ∧ ∀ i m σ H, W i m σ H →
      ((IteT K a).stop i H ∧ D.nx σ H) ∨ ((IteT K a).go i H ∧ ∃ N : L2.St → Hp → Prop, (∀ σ' H', N σ' H' → ∃ m', m' < m ∧ W (i + 1) m' σ' H') ∧ ∀ v H', (IteT K a).yld i H v H' → g v σ H' fun σ2 H2 => tb { D with nx := N, ct := N, bk := D.nx } σ2 H2) := by
  refine ⟨fun i m σ H => m = xs.length - i ∧ i ≤ xs.length ∧ Pv i σ H, ⟨xs.length, rfl, Nat.zero_le _, h0⟩, ?_⟩
  rintro i m σ H ⟨rfl, hi, p⟩
  by_cases hlt : i < xs.length
  · have hx : xs[i]? = some xs[i] := List.getElem?_eq_getElem hlt
    refine .inr ⟨⟨xs, _, hq i σ H p, hx⟩, Pv (i + 1), fun σ' H' p' => ⟨xs.length - (i + 1), by omega, rfl, hlt, p'⟩, fun v H' y => ?_⟩
    obtain ⟨T, x, e, hT, eH, hy⟩ := y
    subst e eH
    exact hs i x T σ H (hy xs (hq i σ H p)) p hT
  · have e : i = xs.length := by omega
    subst e
    exact .inl ⟨⟨xs, hq _ σ H p, Nat.le_refl _⟩, hd σ H p⟩
end SDR
end
section
set_option Elab.async false
set_option linter.all false
set_option maxRecDepth 100000
set_option maxHeartbeats 4000000
/-! tuple[::-1], tuple * 0 and 1, x not in a tuple of tuples, min and max of a tuple, sorted of data -/
namespace SDR
open PySem PySem.Spec PyProof.Rows L2
section
variable {prog : Program} {w : World} {A : Around} {E : Value → Shared → Prop} {s : Shared}
theorem adjust_rev (n : Nat) : Builtin.Slice.sliceAdjust none none (-1) (n : Int) = ((n : Int) - 1, -1) := by
  unfold Builtin.Slice.sliceAdjust
  rfl
theorem places_rev (n : Nat) : Builtin.Slice.slicePlaces ((n : Int) - 1) (-1) (-1) = n := by
  unfold Builtin.Slice.slicePlaces
  have h1 : ¬ ((-1 : Int) > 0) := by omega
  simp only [h1, if_false]
  by_cases h : ((n : Int) - 1 > -1)
  · rw [if_pos h]
    have e : ((n : Int) - 1 - -1 - 1) / (- -1) = (n : Int) - 1 := by
      rw [show (- -1 : Int) = 1 by decide, Int.ediv_one]
      omega
    rw [e]
    omega
  · rw [if_neg h]
    omega
theorem sliceApplied_rev {sl : Addr} {n : Nat} {t : Tok} {Q : Int × Int × Nat → Shared → Prop} (hs : s.heap.IsSliceOf sl .none .none (.int (-1) t))
    (h : Q ((n : Int) - 1, -1, n) s) : wpAny (model prog w) A (Builtin.Slice.sliceApplied (.ref sl) (pure (n : Int))) Q E s := by
  obtain ⟨os, hos, hcs, hds⟩ := id hs
  unfold Builtin.Slice.sliceApplied Builtin.Slice.sliceFields
  refine wpAny_bind (wpAny_bind (wpAny_field hos hds (x := .none) rfl (wpAny_bind (wpAny_field hos hds (x := .none) rfl (wpAny_bind (wpAny_field hos hds (x := .int (-1) t) rfl (wpAny_pure ?_)))))))
  refine wpAny_bind (HT.slicePart_ (.int (-1) t) ?_)
  show wpAny _ _ (if ((-1 : Int) == 0) = true then _ else _) _ _ s
  rw [if_neg (by decide)]
  refine wpAny_bind (HT.slicePart_ .none (wpAny_bind (HT.slicePart_ .none (wpAny_bind (wpAny_pure ?_)))))
  show wpAny _ _ (match Builtin.Slice.sliceAdjust none none (-1) (n : Int) with | (lo, hi) => pure (lo, (-1 : Int), Builtin.Slice.slicePlaces lo hi (-1))) _ _ s
  rw [adjust_rev n]
  show wpAny _ _ (pure ((n : Int) - 1, (-1 : Int), Builtin.Slice.slicePlaces ((n : Int) - 1) (-1) (-1))) _ _ s
  rw [places_rev]
  exact wpAny_pure h
theorem pick_rev (xs : Array Value) : ((List.range xs.size).filterMap fun (m : Nat) => xs[((xs.size : Int) - 1 + (m : Int) * (-1)).toNat]?).toArray = xs.toList.reverse.toArray := by
  have e : (fun (m : Nat) => xs[((xs.size : Int) - 1 + (m : Int) * (-1)).toNat]?) = (fun (k : Nat) => xs[k]?) ∘ fun (m : Nat) => ((xs.size : Int) - 1 + (m : Int) * (-1)).toNat := rfl
  rw [e, ← List.filterMap_map]
  have e2 : (List.range xs.size).map (fun (m : Nat) => ((xs.size : Int) - 1 + (m : Int) * (-1)).toNat) = (List.range xs.size).map fun k => xs.size - 1 - k := by
    apply List.map_congr_left
    intro k hk
    have := List.mem_range.mp hk
    omega
  rw [e2, PySem.W.krv_range, List.filterMap_reverse, PySem.W.krv_all]
theorem getItem_tuple_rev {t sl : Addr} {items : Array Value} {tk : Tok} {Q : Value → Shared → Prop} (ht : IsTup s.heap t items) (hs : s.heap.IsSliceOf sl .none .none (.int (-1) tk))
    (h : Q (.ref s.heap.objs.size) { s with heap := s.heap.push { cls := .type "tuple", data := .seq items.toList.reverse.toArray } })
    (hsz : items.size ≤ sizeLine) : wpAny (model prog w) A (getItem (.ref t) (.ref sl)) Q E s := by
  have htake : sizeOk (.seq items.toList.reverse.toArray) := by
    show items.toList.reverse.toArray.size ≤ sizeLine
    rw [List.size_toArray, List.length_reverse, Array.length_toList]
    omega
  obtain ⟨os, hos, hcs, hds⟩ := id hs
  have hTs : s.TypeIs (.ref sl) "slice" := ⟨os, hos, hcs⟩
  unfold getItem
  try with_reducible refine wpAny_holding ?_
  first | refine wpAny_bind (wpAny_pure ?_) | skip
  refine wpAny_bind (wpAny_sequenceKey ht.typeIs (by decide) ?_)
  refine wpAny_bind (wpAny_callSpecial?_slot (name := Str.ofString "__getitem__") ht.typeIs PyProof.Rows.slot_tuple_getitem
    (wpAny_call_entry PyProof.Rows.slot_tuple_getitem ht.typeIs entry_tuple_getitem ?_ (args_tuple_getitem _ _)))
  show wpAny _ _ (Builtin.Tuple.tupleItemsOf (.ref t) >>= _) _ _ s
  refine wpAny_bind (tupleItemsOf_ ht ?_)
  refine wpAny_bind (wpAny_typeOf hTs ?_)
  rw [if_pos (by decide)]
  refine wpAny_bind (sliceApplied_rev hs ?_)
  have hno : ¬ ((((items.size : Int) - 1) == 0 && (-1 : Int) == 1 && items.size == items.size) = true) := by
    intro q
    rw [Bool.and_eq_true, Bool.and_eq_true] at q
    exact absurd q.1.2 (by decide)
  show wpAny _ _ (if (((items.size : Int) - 1) == 0 && (-1 : Int) == 1 && items.size == items.size) = true then _ else _) _ _ s
  rw [if_neg hno, pick_rev]
  first
    | exact wpAny_bind (m := Builtin.Tuple.tupleExact _) (wpAny_newObj_type (wpAny_pure ⟨_, rfl, wpAny_pure h⟩) htake)
    | exact wpAny_bind (m := Builtin.Tuple.tupleExact _) (wpAny_newObj_type (wpAny_bind (wpAny_pure (wpAny_pure ⟨_, rfl, wpAny_pure h⟩))) htake)
    | exact wpAny_bind (wpAny_bind (m := Builtin.Tuple.tupleExact _) (wpAny_newObj_type (wpAny_pure (wpAny_pure ⟨_, rfl, wpAny_pure h⟩)) htake))
    | exact wpAny_bind (wpAny_bind (m := Builtin.Tuple.tupleExact _) (wpAny_newObj_type (wpAny_pure ⟨_, rfl, wpAny_pure h⟩) htake))
end
section
variable {X : Cx}
/-- t[::-1] -/
def tRevT (K : PySem.W.Frag) (te : TE) : TE := fun σ H Q => te σ H fun x H1 => ∃ a xs, x = .ref a ∧ SqT K H1 a xs ∧ ∀ p, H1 p = none → Q (.ref p) (upd H1 p (.tup xs.reverse))
theorem pe_revT {e : Expr} {te : TE} {k : Nat} {p1 p2 p3 pos : Pos} (he : PE X e te) : PE X (.Subscript e (.Slice none none (some (.UnaryOp .USub (.Constant (.int 1) k p1) p2)) p3) pos) (tRevT X.K te) := by
  refine ⟨fun pins s σ H Q I h => ?_⟩
  refine Subscript_ (thn (he.run pins s σ H _ I h) fun v s1 ⟨x, H1, I1, r1, q1⟩ => ?_)
  obtain ⟨a, xs, ex, hx, q⟩ := q1
  subst ex
  cases r1
  have hst : PO X (some (.UnaryOp .USub (.Constant (.int 1) k p1) p2)) (tPart (tUn (rU fun i => .int (-i)) (tC (.int 1)))) := po_some (pe_un un_neg pe_int)
  refine wpAny_Slice ?_
  rw [evalPart_none]
  refine wpAny_pure ?_
  refine wpAny_pure ?_
  refine thn (hst.run pins s1 σ H1 (fun o H4 => o = some (-1) ∧ H4 = H1) I1 ⟨1, rfl, -1, rfl, rfl, rfl⟩) fun vs s4 ⟨o, H4, I4, ps, eo, e4⟩ => ?_
  subst eo e4
  cases ps with
  | int i t =>
  have I5 : Inv X pins σ H4 { s4 with heap := s4.heap.push { cls := .type "slice", data := .fields #[.none, .none, .int (-1) t] } } := I4.kept (t' := s4.toks) fun b ob q => Heap.get?_push_of_some _ q
  obtain ⟨its, r, ht, hz⟩ := I5.tuple hx
  have hlen := r.length
  show wpAny (model X.prog X.w) X.A (subscriptTail e (.Slice none none (some (.UnaryOp .USub (.Constant (.int 1) k p1) p2)) p3) (.ref a) (.ref s4.heap.objs.size)) (EP X pins σ Q) X.xe { s4 with heap := s4.heap.push { cls := .type "slice", data := .fields #[.none, .none, .int (-1) t] } }
  refine tail_any (ops := [.ref a, .ref s4.heap.objs.size]) ht.typeIs (PyProof.Rows.slot_tuple_getitem.lookup) ?_ (by with_unfolding_all rfl)
  refine getItem_tuple_rev ht (Heap.IsSliceOf.new _ .none .none (.int (-1) t)) ?_ (by rw [List.size_toArray]; omega)
  refine ⟨.ref _, _, I5.laid (t' := s4.toks) (o := .tup xs.reverse) (fun b ob q => Heap.get?_push_of_some _ q) (Nat.le_refl _) ?_, rfl, q _ (I5.hok.fresh (Nat.le_refl _))⟩
  exact ⟨by rw [List.length_reverse]; exact hz, _, r.reverse, IsTup.new _ _⟩
end
/-! t * 1 is t, t * 0 a new empty tuple -/
theorem tuple_mul1 (l : Addr) (items : Array Value) (n : Nat) (sl : Array (Option Value)) (dd : Option Addr) (u : Tok) :
    Meets (Builtin.«tuple.__mul__» ⟨[.ref l, .int 1 u], []⟩) (fun _ R s => s.heap.get? l = some { cls := .type "tuple", dict := dd, data := .seq items n, slots := sl } ∧ R (.ok (.ret (Value.ref l))) s) :=
  .of_wp fun prog w A R s h => by
    obtain ⟨hp, g, d, tk, os⟩ := s
    obtain ⟨hl, h⟩ := h
    have f1 := AutoSeq1.idx_int
    have c1 : (items.isEmpty || (1 : Int) == 1) = true := by simp
    wp_walk using wpAny_loadPart' hl
    repeat (first
      | (refine wpAny_ite_true (decide_eq_true c1) ?_; wp_walk using wpAny_loadPart' hl))
    exact ⟨_, rfl, h⟩
theorem tuple_mul0 (l : Addr) (items : Array Value) (n : Nat) (sl : Array (Option Value)) (dd : Option Addr) (u : Tok) (hi : items.isEmpty = false) :
    Meets (Builtin.«tuple.__mul__» ⟨[.ref l, .int 0 u], []⟩) (fun _ R s => s.heap.get? l = some { cls := .type "tuple", dict := dd, data := .seq items n, slots := sl } ∧
      R (.ok (.ret (Value.ref s.heap.objs.size))) { s with heap := s.heap.push { cls := Value.type "tuple", data := Data.seq #[] }, toks := s.toks }) :=
  .of_wp fun prog w A R s h => by
    obtain ⟨hp, g, d, tk, os⟩ := s
    obtain ⟨hl, h⟩ := h
    have f1 := AutoSeq1.idx_int
    have c1 : (items.isEmpty || (0 : Int) == 1) = false := by rw [hi]; rfl
    wp_walk using wpAny_loadPart' hl
    repeat (first
      | (refine wpAny_ite_false (decide_eq_false (by rw [c1]; exact Bool.false_ne_true)) ?_; wp_walk using wpAny_loadPart' hl))
    exact ⟨_, rfl, h⟩
/-- t * k, t of one item, 0 ≤ k ≤ 1000 -/
def rRepA (K : PySem.W.Frag) : R2 := fun x y H Q => ∃ l k v, x = .ref l ∧ y = .int k ∧ SqT K H l [v] ∧ 0 ≤ k ∧ k ≤ 1000 ∧ (k = 1 → Q (.ref l) H) ∧ (k ≠ 1 → ∀ p, H p = none → Q (.ref p) (upd H p (.tup (List.replicate k.toNat v))))
section
variable {X : Cx}
theorem op_repA : OpR X (binaryOp .Mult) (rRepA X.K) := by
  intro pins s σ H x y v u Q I rx ry h
  obtain ⟨l, k, z, rfl, rfl, hT, h0, h1, q1, q2⟩ := h
  by_cases k2 : 2 ≤ k
  · refine op_repT pins s σ H _ _ v u Q I rx ry ⟨l, k, [z], rfl, rfl, hT, by simp, k2, h1, by simp, fun p hp => ?_⟩
    have e : (List.replicate k.toNat [z]).flatten = List.replicate k.toNat z := by
      induction k.toNat with
      | zero => rfl
      | succ n ih => rw [List.replicate_succ, List.replicate_succ, List.flatten_cons, ih]; rfl
    rw [e]
    exact q2 (by omega) p hp
  cases rx
  obtain ⟨t, rfl⟩ := ry
  obtain ⟨its, r, ⟨⟨cls, dd, data, sl⟩, ho, hc, n, hd⟩, hs⟩ := I.tuple hT
  simp only at hc hd
  subst hc hd
  have hi : its.toArray.isEmpty = false := by
    cases r with
    | cons a b => rfl
  have hk : k = 0 ∨ k = 1 := by omega
  rcases hk with rfl | rfl
  · refine wpAny_binaryOp_repeat_ref (T := "tuple") (U := "int") (by decide) ⟨_, ho, rfl⟩ (fun s' => typeIs_int s' 0 t) noFill_tuple_mul F.fills_int_mul F.slot_int_rmul repeat_tuple F.slot_int_index.lookup
      (call_meets F.slot_int_rmul (typeIs_int s 0 t) F.entry_int_rmul (F.args_int_rmul_2 _ _) (int_rmul_tuple 0 t l its.toArray n dd sl)
        ⟨ho, rfl, ⟨_, ho, rfl⟩, call_meets F.slot_tuple_mul ⟨_, ho, rfl⟩ F.entry_tuple_mul (F.args_tuple_mul_2 _ _) (tuple_mul0 l its.toArray n sl dd t hi) ⟨ho, ?_⟩⟩)
    refine ⟨.ref s.heap.objs.size, _, I.laid (t' := s.toks) (o := .tup []) (fun b ob q => Heap.get?_push_of_some _ q) (Nat.le_refl _) ?_, rfl, q2 (by decide) _ (I.hok.fresh (Nat.le_refl _))⟩
    exact ⟨Nat.zero_le _, [], .nil, IsTup.new _ _⟩
  · exact wpAny_binaryOp_repeat_ref (T := "tuple") (U := "int") (by decide) ⟨_, ho, rfl⟩ (fun s' => typeIs_int s' 1 t) noFill_tuple_mul F.fills_int_mul F.slot_int_rmul repeat_tuple F.slot_int_index.lookup
      (call_meets F.slot_int_rmul (typeIs_int s 1 t) F.entry_int_rmul (F.args_int_rmul_2 _ _) (int_rmul_tuple 1 t l its.toArray n dd sl)
        ⟨ho, rfl, ⟨_, ho, rfl⟩, call_meets F.slot_tuple_mul ⟨_, ho, rfl⟩ F.entry_tuple_mul (F.args_tuple_mul_2 _ _) (tuple_mul1 l its.toArray n sl dd t) ⟨ho, ⟨.ref l, H, I, rfl, q1 rfl⟩⟩⟩)
/-- x not in t, t a tuple of data -/
def rNotInDT (K : PySem.W.Frag) : R2 := fun x y H Q => ∃ d ds, Dp K H x d ∧ Dp K H y (.tuple ds) ∧ SeqAt.shaped d = true ∧ SeqAt.shaped (.tuple ds) = true ∧ Q (.bl (!ds.any fun z => PyData.eqv z d)) H
theorem op_notInDT (hu : X.A.units + 65 < cLine) : OpR X (compareOp .NotIn) (rNotInDT X.K) := by
  intro pins s σ H x y v u Q I rx ry h
  obtain ⟨d, ds, hd, he, sd, se, q⟩ := h
  obtain ⟨as, r1⟩ := Dp.reads I d x v hd rx
  obtain ⟨bs, r2⟩ := Dp.reads I (.tuple ds) y u he ry
  exact SeqAt.notIn_tuple_reads r2 r1 (SeqAt.canLay_of_shaped se) (SeqAt.canLay_of_shaped sd) (room_in_shaped sd hu) ⟨.bl _, H, I, rfl, q⟩
/-- max, min of a tuple of ints: only bounds are told -/
theorem dp_ints {K : PySem.W.Frag} {H : Hp} : ∀ ns : List Int, DpAll K H (ns.map V.int) (ns.map PyData.int)
  | [] => .nil
  | n :: ns => .cons (.int n) (dp_ints ns)
theorem alike_ints (n : Int) (ns : List Int) : PySem.W.AlikeAll ((n :: ns).map PyData.int) := by
  refine ⟨fun x hx y hy => ?_, fun x hx => ?_⟩
  · obtain ⟨a, _, rfl⟩ := List.mem_map.mp hx
    obtain ⟨b, _, rfl⟩ := List.mem_map.mp hy
    rfl
  · obtain ⟨a, _, rfl⟩ := List.mem_map.mp hx
    intro z
    cases z
theorem depth_ints : ∀ ns : List Int, PyData.depthAll (ns.map PyData.int) ≤ 1
  | [] => by simp [PyData.depthAll]
  | n :: ns => by
    have := depth_ints ns
    simp only [List.map_cons, PyData.depthAll, PyData.depth]
    omega
theorem reads_int {h : Heap} {v : Value} {i : Int} {bs : List Addr} (r : Reads h v (.int i) bs) : ∃ t, v = .int i t := by
  cases r
  exact ⟨_, rfl⟩
def rBest (K : PySem.W.Frag) : List V → Hp → VK → Prop := fun vs H Q => ∃ (a : Addr) (ns : List Int), vs = [V.ref a] ∧ SqT K H a (ns.map V.int) ∧ ns ≠ [] ∧ ∀ m, m ∈ ns → Q (.int m) H
theorem best_mem (f : PyData → PyData → Bool) : ∀ (n : Int) (ns : List Int), ∃ m ∈ n :: ns, (ns.map PyData.int).foldl (fun a y => if f a y then y else a) (.int n) = .int m
  | n, [] => ⟨n, by simp, rfl⟩
  | n, k :: ns => by
    rw [List.map_cons, List.foldl_cons]
    by_cases h : f (.int n) (.int k) = true
    · rw [if_pos h]
      obtain ⟨m, hm, e⟩ := best_mem f k ns
      exact ⟨m, List.mem_cons_of_mem _ hm, e⟩
    · rw [if_neg h]
      obtain ⟨m, hm, e⟩ := best_mem f n ns
      refine ⟨m, ?_, e⟩
      rcases List.mem_cons.mp hm with rfl | hm
      · simp
      · simp [hm]
theorem call_minT (hc : X.calm = true) (hu : X.A.units + 3 < cLine) : CallR X (.builtin "min") (rBest X.K) := by
  intro pins s σ H vs us Q I r h
  obtain ⟨a, ns, rfl, hs, hne, q⟩ := h
  obtain ⟨its, rv, ht, _⟩ := I.tuple hs
  rw [Vals.ref1 r]
  cases ns with
  | nil => exact absurd rfl hne
  | cons n ns =>
    obtain ⟨as, hr⟩ := Dp.readsAll I ((n :: ns).map PyData.int) _ _ (dp_ints (n :: ns)) rv
    have hd := depth_ints (n :: ns)
    refine PySem.W.min_tuple_data (I.ok.hd hc) (show s.heap.IsTuple a its.toArray from ht) (x := .int n) (xs := ns.map PyData.int) (by simpa using hr) (alike_ints n ns) (by rw [List.map_cons] at hd; omega) fun i v h' tk bs hv hrd hk => ?_
    obtain ⟨m, hm, e⟩ := best_mem (fun a y => PySem.W.dataLt y a) n ns
    have e2 : PySem.W.minD (.int n) (ns.map PyData.int) = .int m := e
    rw [e2] at hrd
    obtain ⟨t, rfl⟩ := reads_int hrd
    exact ⟨.int m, H, I.kept hk, ⟨_, rfl⟩, q m hm⟩
theorem call_maxT (hc : X.calm = true) (hu : X.A.units + 3 < cLine) : CallR X (.builtin "max") (rBest X.K) := by
  intro pins s σ H vs us Q I r h
  obtain ⟨a, ns, rfl, hs, hne, q⟩ := h
  obtain ⟨its, rv, ht, _⟩ := I.tuple hs
  rw [Vals.ref1 r]
  cases ns with
  | nil => exact absurd rfl hne
  | cons n ns =>
    obtain ⟨as, hr⟩ := Dp.readsAll I ((n :: ns).map PyData.int) _ _ (dp_ints (n :: ns)) rv
    have hd := depth_ints (n :: ns)
    refine PySem.W.max_tuple_data (I.ok.hd hc) (show s.heap.IsTuple a its.toArray from ht) (x := .int n) (xs := ns.map PyData.int) (by simpa using hr) (alike_ints n ns) (by rw [List.map_cons] at hd; omega) fun i v h' tk bs hv hrd hk => ?_
    obtain ⟨m, hm, e⟩ := best_mem (fun a y => PySem.W.dataLt a y) n ns
    have e2 : PySem.W.maxD (.int n) (ns.map PyData.int) = .int m := e
    rw [e2] at hrd
    obtain ⟨t, rfl⟩ := reads_int hrd
    exact ⟨.int m, H, I.kept hk, ⟨_, rfl⟩, q m hm⟩
end
end SDR
end
section
set_option Elab.async false
set_option linter.all false
set_option maxRecDepth 100000
set_option maxHeartbeats 4000000
/-! sorted(xs), xs a list of data of one kind, any length: a permutation -/
namespace SDR
open PySem PySem.Spec PyProof.Rows L2
section
variable {X : Cx}
theorem each_of_vals : ∀ {bs : List (V × PyData)} {us : List Value}, Vals (bs.map (·.1)) us → PySem.W.EachIs (fun v (b : V × PyData) => RelV b.1 v) us bs
  | [], _, r => by cases r; exact .nil
  | b :: bs, _, r => by
    cases r with
    | cons h t => exact .cons h (each_of_vals t)
theorem vals_of_each : ∀ {bs : List (V × PyData)} {us : List Value}, PySem.W.EachIs (fun v (b : V × PyData) => RelV b.1 v) us bs → Vals (bs.map (·.1)) us
  | [], _, r => by cases r; exact .nil
  | b :: bs, _, r => by
    cases r with
    | cons h t => exact .cons h (vals_of_each t)
def rSortedD (K : PySem.W.Frag) : List V → Hp → VK → Prop := fun vs H Q => ∃ (a : Addr) (bs : List (V × PyData)), vs = [V.ref a] ∧ SqL K H a (bs.map (·.1)) ∧ (∀ b ∈ bs, Dp K H b.1 b.2) ∧
  PySem.W.AllAlike (bs.map (·.2)) ∧ PySem.W.Sortable (bs.map (·.2)) ∧ (∀ b ∈ bs, b.2.depth ≤ 60) ∧
  ∀ (bs' : List (V × PyData)) (p : Addr), bs'.Perm bs → H p = none → Q (.ref p) (upd H p (.lst (bs'.map (·.1))))
theorem cr_sortedD (hu : X.A.units + 64 < cLine) : CallR X (.builtin "sorted") (rSortedD X.K) := by
  intro pins s σ H vs us Q I r h
  obtain ⟨a, bs, rfl, hs, hd, ha, ho, hz, q⟩ := h
  obtain ⟨its, rv, hl, hlen⟩ := I.list hs
  rw [Vals.ref1 r]
  have e := each_of_vals rv
  have er : PySem.W.EachIs (fun v (b : V × PyData) => ∃ as, Reads s.heap v b.2 as) its bs := (PySem.W.each_mem e).mono fun v b ⟨h1, hb⟩ => Dp.reads I b.2 b.1 v (hd b hb) h1
  have hL : bs.length ≤ sizeLine := by rw [List.length_map] at hlen; exact hlen
  refine PySem.W.sorted_data (enc := fun b : V × PyData => b.2) hl.isList e er ha ho hL (fun b hb => by have := hz b hb; omega) fun out h1 h2 => ?_
  obtain ⟨ep, he'⟩ := PyProof.Rows.sortedAll_at s.heap its out.toArray
  have pm : (bs.mergeSort (PySem.W.dataLe false fun b : V × PyData => b.2)).Perm bs := List.mergeSort_perm bs _
  have hlen2 : ((bs.mergeSort (PySem.W.dataLe false fun b : V × PyData => b.2)).map (·.1)).length ≤ sizeLine := by rw [List.length_map, pm.length_eq]; exact hL
  exact ⟨.ref _, upd H (s.heap.objs.size + 1) (.lst ((bs.mergeSort (PySem.W.dataLe false fun b : V × PyData => b.2)).map (·.1))), I.laid (t' := s.toks) (fun _ _ => PyProof.Rows.sortedAll_old) (Nat.le_succ _) ⟨hlen2, out, ep, vals_of_each h2, he'⟩, rfl, q _ _ pm (I.hok.fresh (Nat.le_succ _))⟩
end
end SDR
end
section
set_option Elab.async false
set_option linter.all false
set_option maxRecDepth 100000
set_option maxHeartbeats 4000000
/-! dict comprehensions whose keys may be tuples; setdefault with tuple keys -/
namespace SDR
open PySem PySem.Spec PyProof.Rows L2
section
variable {X : Cx} {pins : List (Addr × Obj)} {σ : L2.St} {H : Hp} {s : Shared} {a : Addr} {y v : V} {u r : Value} {A : Around} {E : Value → Shared → Prop}
/-- a store into a dict by a comprehension, keys of either kind -/
theorem d_dictSetP {H' : Hp} {Q : Unit → Shared → Prop} (hu : X.A.units + 1 < cLine) (I : Inv X pins σ H s) (g : DPut H a y v H') (ry : RelV y u) (rv : RelV v r) (h : ∀ s', Inv X pins σ H' s' → Q () s') :
    wpAny (model X.prog X.w) X.A (dictSet a u r) Q E s := by
  rcases g with ⟨kvs, k, e, ey, l, eH⟩ | ⟨kvs, k, b, e, ey, eb, l, eH⟩
  · subst ey eH
    exact d_dictSet I e l ry rv h
  · subst ey eH
    cases (show u = Value.ref b from ry)
    obtain ⟨z, hd, xs, rel, dd⟩ := dt_of I.hok e
    have hxs : xs.length ≤ sizeLine := by
      rw [← Paired.length rel]
      exact z
    have hps : (putK kvs k v).length ≤ sizeLine := by
      have := length_putK kvs k v
      omega
    refine wpAny_dictSet_heap (hsz := hxs) (show X.A.units < cLine from by omega) (key_of I.hok eb) dd fun h' dd' hs => h _ ?_
    obtain ⟨q, es, ep, hq, h2, h3, h4, _, h5⟩ := dd'
    refine d_write I (by rw [e]; exact True.intro) hs ⟨q, hq⟩ ⟨hps, hd, _, (rel.put k eb rv).keeps fun c ys ec => ?_, q, es, ep, hq, h2, h3, h4, h5⟩
    rw [upd_ne (ne_of ec e (fun z => nomatch z))]
    exact ec
end
/-! {k: v for target in iter}, the new dict of the kind e0 tells (keys ints and texts, or tuples) -/
section
variable {X : Cx}
def tDcP (e0 : HO) (wi : TI) (g : TG) (tk tv : TE) (vs : List Nat) : TE := fun σ H Q => wi σ H fun J H1 => ∀ D, H1 D = none → ∃ W : Nat → Nat → Hp → Prop, (∃ m, W 0 m (upd H1 D e0)) ∧ ∀ i m H, W i m H →
  (J.stop i H ∧ Q (.ref D) H) ∨ (J.go i H ∧ ∃ Nx : Hp → Prop, (∀ H', Nx H' → ∃ m', m' < m ∧ W (i + 1) m' H') ∧ ∀ x H', J.yld i H x H' → g x (wipe σ vs) H' fun σ2 H2 => wipe σ2 vs = wipe σ vs ∧
    tk σ2 H2 fun y H4 => tv σ2 H4 fun z H5 => ∃ H6, DPut H5 D y z H6 ∧ Nx H6)
theorem pe_dcP {e0 : HO} (he0 : e0 = .dK [] ∨ e0 = .dT []) {kx vx tg iter : Expr} {scope : Scope} {own : List (Str × Nat)} {pos : Pos} {wi : TI} {g : TG} {tk tv : TE} (hu : X.A.units + 1 < cLine) (hc : X.calm = true) (hN : X.N.Nodup) (hi : PI X tg iter wi) (ok : BlkOk X.N X.env.scope scope own)
    (hg : ∀ (s : Shared) (H : Hp) (C : Addr) (cl : List (Str × Addr)) (fp : List Addr), PG (X.blk s H scope (compEnvC scope cl C X.env) fp) tg g)
    (hk : ∀ (s : Shared) (H : Hp) (C : Addr) (cl : List (Str × Addr)) (fp : List Addr), PE (X.blk s H scope (compEnvC scope cl C X.env) fp) kx tk)
    (hv : ∀ (s : Shared) (H : Hp) (C : Addr) (cl : List (Str × Addr)) (fp : List Addr), PE (X.blk s H scope (compEnvC scope cl C X.env) fp) vx tv) (hs : ∀ x, foldedSetIterable iter X.env x = pure x := by intro _; rfl) :
    PE X (.DictComp kx vx [⟨tg, iter, [], 0⟩] scope pos) (tDcP e0 wi g tk tv (own.map (·.2))) := by
  refine ⟨fun pins s σ H Q I h => ?_⟩
  rw [arm_eval_DictComp]
  have cellsOf : ∀ y ∈ scope.names, y.2 = .free → ∃ c, X.env.cells.lookup y.1 = some c := fun y hy e => (ok.free y hy e).elim (fun k => I.ok.has _ (.inl k)) fun k => I.ok.has _ (.inr k)
  refine wpAny_comprehension_free rfl hs (closure_ok cellsOf) ok.kind (fun y hy e => by rw [ok.uniq y hy, e]) (thn (hi.run pins s σ H _ I h) fun xv s1 hx => thn hx fun itv s2 h2 => ?_)
  obtain ⟨it, fp, tn, J, H2, rfl, I2, T, st2, f2, q⟩ := h2
  refine wpAny_newObj_type (newEnv_comp ?_)
  obtain ⟨D, hD⟩ : ∃ D, D = s2.heap.objs.size := ⟨_, rfl⟩
  rw [← hD]
  have hDn : H2 D = none := I2.hok.fresh (Nat.le_of_eq hD.symm)
  obtain ⟨W, ⟨m0, w0⟩, turn⟩ := q D hDn
  -- with the new dict
  have I3 : Inv X pins σ (upd H2 D e0) { s2 with heap := s2.heap.push { cls := .type "dict", data := .dict #[] } } := by
    refine I2.laid (t' := s2.toks) (fun b o e => Heap.get?_push_of_some _ e) (Nat.le_of_eq hD.symm) ?_
    rw [hD]
    rcases he0 with rfl | rfl
    · exact dk_empty s2.heap I2.big
    · exact dt_empty s2.heap I2.big
  have hsz : (s2.heap.push { cls := .type "dict", data := .dict #[] }).objs.size = s2.heap.objs.size + 1 := Heap.size_push ..
  have old : ∀ b o, s2.heap.get? b = some o → (s2.heap.push { cls := .type "dict", data := .dict #[] }).get? b = some o := fun b o e => Heap.get?_push_of_some _ e
  generalize hp3 : s2.heap.push { cls := .type "dict", data := .dict #[] } = h3 at I3 hsz old
  have f3 : ∀ b ∈ fp, FpOk X pins (upd H2 D e0) b ∧ b < ({ s2 with heap := h3 } : Shared).heap.objs.size := fun b hb => by
    obtain ⟨o, e, _⟩ := T.obj _ _ st2 b hb
    have hlt := Heap.lt_size e
    refine ⟨⟨?_, (f2 b hb).2⟩, by show b < h3.objs.size; rw [hsz]; exact Nat.lt_succ_of_lt hlt⟩
    rw [upd_ne (by rw [hD]; exact Nat.ne_of_lt hlt)]
    exact (f2 b hb).1
  have st3 : tn 0 h3 := T.keep _ _ _ st2 fun b _ o e => old b o e
  have I4 := block_start I3 ok hN f3
  have pg := hg { s2 with heap := h3 } (upd H2 D e0) h3.objs.size (cellsFrom (h3.objs.size + 1) scope.names (cloFrom X.env.cells scope.names [])) fp
  have pk := hk { s2 with heap := h3 } (upd H2 D e0) h3.objs.size (cellsFrom (h3.objs.size + 1) scope.names (cloFrom X.env.cells scope.names [])) fp
  have pv := hv { s2 with heap := h3 } (upd H2 D e0) h3.objs.size (cellsFrom (h3.objs.size + 1) scope.names (cloFrom X.env.cells scope.names [])) fp
  have nfp : ∀ b ∈ fp, (upd H2 D e0) b = none := fun b hb => (f3 b hb).1.1
  have goal' : codeAny (model X.prog X.w) X.A (.compStart (.DictComp kx vx [⟨tg, iter, [], 0⟩] scope pos) 0 (.ref it) (.ref D) (compEnvC scope (cellsFrom (h3.objs.size + 1) scope.names (cloFrom X.env.cells scope.names [])) h3.objs.size X.env))
      (compPost (model X.prog X.w) X.A X.xe none (EP X pins σ Q) (.ref D) h3.objs.size) { s2 with heap := pushCells (h3.push { cls := .type "dict", data := .dict #[] }) scope.names } := by
    have cL : (compEnvC scope (cellsFrom (h3.objs.size + 1) scope.names (cloFrom X.env.cells scope.names [])) h3.objs.size X.env).locals = h3.objs.size := rfl
    generalize compEnvC scope (cellsFrom (h3.objs.size + 1) scope.names (cloFrom X.env.cells scope.names [])) h3.objs.size X.env = ce at I4 pg pk pv cL ⊢
    generalize upd H2 D e0 = H3 at I3 I4 pg pk pv w0 nfp f3
    have st4 : tn 0 (pushCells (h3.push { cls := .type "dict", data := .dict #[] }) scope.names) := T.keep _ _ _ st3 fun b _ o e => pushCells_keeps _ _ _ _ (Heap.get?_push_of_some _ e)
    have stat : ∀ {σ' : L2.St} {H' : Hp} {s' : Shared}, Inv (X.blk { s2 with heap := h3 } H3 scope ce fp) [] σ' H' s' → (∀ b ∈ fp, H' b = none) → ∀ b ∈ fp, FpOk (X.blk { s2 with heap := h3 } H3 scope ce fp) [] H' b := fun {σ' H' s'} I' hn b hb =>
      ⟨hn b hb, (I'.ok.exf b hb).1, I'.ok.exfs b hb, .inl hb, fun x c e => (I'.ok.exf b hb).2 x c e, fun p hp => absurd (show p ∈ ([] : List (Addr × Obj)) ++ [] from hp) (by simp)⟩
    have loop : codeAny (model X.prog X.w) X.A (.compLoop (.DictComp kx vx [⟨tg, iter, [], 0⟩] scope pos) 0 (.ref it) (.ref D) ce) (compPost (model X.prog X.w) X.A X.xe none (EP X pins σ Q) (.ref D) h3.objs.size)
        { s2 with heap := pushCells (h3.push { cls := .type "dict", data := .dict #[] }) scope.names } := by
      refine compLoop_anyD (fun n s' => ∃ i H', Inv (X.blk { s2 with heap := h3 } H3 scope ce fp) [] (wipe σ (own.map (·.2))) H' s' ∧ tn i s'.heap ∧ (∀ b ∈ fp, H' b = none) ∧ W i n H') ?_ m0 ⟨0, H3, I4, st4, nfp, w0⟩
      rintro n s5 ⟨i, H5, I5, st5, n5, w5⟩
      rcases turn i n H5 w5 with ⟨stop, qq⟩ | ⟨go, Nx, hNx, step⟩
      · refine thnF (T.done (X.blk { s2 with heap := h3 } H3 scope ce fp) rfl rfl rfl hc i [] s5 _ H5 (fun _ _ => False) I5 (stat I5 n5) st5 stop) fun r s6 ⟨hr, I6⟩ => ?_
        subst hr
        have I7 : Inv X pins σ H5 s6 := I3.call' (ch := fp) I6.os I6.base I6.hok I6.bare fun b hb => ⟨(f3 b hb).1.2.2.2.1, (f3 b hb).1.2.1, (f3 b hb).1.2.2.2.2.1, (f3 b hb).1.2.2.2.2.2⟩
        have nC : H5 h3.objs.size = none := by
          have z : H5 ce.locals = none := I6.free
          rw [cL] at z
          exact z
        obtain ⟨m, hn, _⟩ := I6.loc
        have hn2 : s6.heap.Ns ce.locals m := hn
        rw [cL] at hn2
        obtain ⟨f0, f1, f2', f3', f4, f5⟩ : FpOk X pins H5 h3.objs.size := I3.fpOk (Nat.le_refl _) nC
        exact ⟨m, hn2, fun h'' sb => ⟨.ref D, H5, I7.turned (t' := s6.toks) (fun b o hb e => (sb.2 b hb).trans e) f0 f1 f3' f4 f5, rfl, qq⟩⟩
      · refine thnF (T.item (X.blk { s2 with heap := h3 } H3 scope ce fp) rfl rfl rfl hc i [] s5 _ H5 (fun _ _ => False) I5 (stat I5 n5) st5 go) fun r s6 ⟨u, hr, h6⟩ => ?_
        subst hr
        refine thnF h6 fun _ s7 ⟨x, H7, I7, r7, y7, st7, n7⟩ => ?_
        have I7' := I7.pinned (stat I7 n7) (T.obj _ _ st7)
        refine thnF (pg.run _ s7 _ H7 x u _ I7' r7 (step x H7 y7)) fun _ s8 ⟨σ8, H8, I8, hw8, q8⟩ => ?_
        refine thnF ((show PTs (X.blk { s2 with heap := h3 } H3 scope ce fp) [] tYes from pts_nil).run _ s8 σ8 H8 (fun b H9 => b = true ∧ H9 = H8) I8 ⟨rfl, rfl⟩) fun b s9 ⟨H9, I9, eb, e9⟩ => ?_
        subst eb e9
        simp only [if_true]
        refine thnF (pk.run _ s9 σ8 H9 _ I9 q8) fun z s10 ⟨yk, H10, I10, r10, q10⟩ => thnF (pv.run _ s10 σ8 H10 _ I10 q10) fun z2 s11 ⟨yv, H11, I11, r11, H12, hput, nx⟩ => ?_
        refine d_dictSetP (X := X.blk { s2 with heap := h3 } H3 scope ce fp) (show X.A.units + 1 < cLine from hu) I11 hput r10 r11 fun s12 I12 => ?_
        obtain ⟨m', hm, w'⟩ := hNx H12 nx
        have pin' : ∀ b ∈ fp, ∀ o, s7.heap.get? b = some o → s12.heap.get? b = some o ∧ H12 b = none := fun b hb o e =>
          let z := I12.pin (b, o) (List.mem_append_right _ (List.mem_append_right _ (mem_pinsAt hb e)))
          ⟨z.1, z.2.1⟩
        have hl : (wipe σ (own.map (·.2))).length = σ8.length := by rw [← hw8, wipe_length]
        refine ⟨m', hm, i + 1, H12, (I12.unpinned (pins := [])).weak hl (fun j v e => ?_), T.keep _ _ _ st7 fun b hb o e => (pin' b hb o e).1, fun b hb => ?_, w'⟩
        · rw [← hw8] at e
          exact (wipe_some e).1
        · obtain ⟨o, e, _⟩ := T.obj _ _ st7 b hb
          exact (pin' b hb o e).2
    exact codeAny_compStart_dict loop (T.self X.A 0 _ _ _ st4 loop)
  exact goal'
end
/-! d.setdefault(k, x), k a tuple -/
section
variable {X : Cx}
def tDSetT (td ty tx : TE) : TE := fun σ H Q => td σ H fun x H1 => ∃ a, x = .ref a ∧ IsD H1 a ∧ ty σ H1 fun y H2 => tx σ H2 fun z H3 => ∃ (b : Addr) (kvs : List (List Key × V)) (k : List Key), y = .ref b ∧ H3 a = some (.dT kvs) ∧ H3 b = some (.tup (k.map kV)) ∧ kvs.length < sizeLine ∧
  (∀ v, valV kvs k = some v → Q v H3) ∧ (valV kvs k = none → Q z (upd H3 a (.dT (putK kvs k z))))
theorem pe_dsetT {o e f : Expr} {td ty tx : TE} {apos cpos : Pos} (hu : X.A.units + 1 < cLine) (ho : PE X o td) (he : PE X e ty) (hf : PE X f tx) (m : M2 X o "setdefault" apos e f cpos) : PE X (.Call (.Attribute o "setdefault" apos) [e, f] [] cpos) (tDSetT td ty tx) := by
  refine ⟨fun pins s σ H Q I h => ?_⟩
  refine wpAny_Call_method m.base m.few m.line PySem.F.plainAttrs_dict PySem.F.slot_dict_setdefault PySem.F.type_dict_setdefault (thn (ho.run pins s σ H _ I h) fun u s1 ⟨x, H1, I1, rx, a, ex, d, q1⟩ => ?_)
  subst ex
  obtain rfl : u = Value.ref a := rx
  obtain ⟨t1, t2, _⟩ := isD_at I1 d
  refine ⟨t1, t2, ?_⟩
  rw [m.trees]
  refine Calls.callWith_builtin rfl (Calls.evalArgs_plain (Calls.spliced_cons (thn (he.run pins s1 σ H1 _ I1 q1) fun iv s2 ⟨y, H2, I2, ry, q2⟩ =>
    Calls.spliced_cons (thn (hf.run pins s2 σ H2 _ I2 q2) fun fv s3 ⟨z, H3, I3, rz, b, kvs, k, ey, ea, eb, hl, q3, q4⟩ => Calls.spliced_nil ?_))))
  subst ey
  obtain rfl : iv = Value.ref b := ry
  obtain ⟨hz, hd, xs, rel, dd⟩ := dt_of I3.hok ea
  have hxs : xs.length ≤ sizeLine := by
    rw [← Paired.length rel]
    exact hz
  have q0 := rel.val k
  refine call_setdefault_heap (hsz := hxs) (tupleKind_room_in1 hu) (key_of I3.hok eb) hd dd (fun p hp => ?_) fun hn h' dd' hs => ?_
  · rw [hp] at q0
    cases e0 : valV kvs k with
    | none =>
      rw [e0] at q0
      exact (show False from q0).elim
    | some v0 =>
      rw [e0] at q0
      exact ⟨v0, H3, I3.tok _, q0, q3 v0 e0⟩
  · rw [hn] at q0
    cases e0 : valV kvs k with
    | some v0 =>
      rw [e0] at q0
      exact (show False from q0).elim
    | none =>
      have hps : (putK kvs k z).length ≤ sizeLine := by
        have := length_putK kvs k z
        omega
      obtain ⟨w0, es, ep, hq, h2, h3, h4, _, h5⟩ := dd'
      refine ⟨z, _, d_write (ob := .dT (putK kvs k z)) I3 (by rw [ea]; exact True.intro) hs ⟨w0, hq⟩ ⟨hps, hd, _, (rel.put k eb rz).keeps fun c ys ec => ?_, w0, es, ep, hq, h2, h3, h4, h5⟩, rz, q4 e0⟩
      rw [upd_ne (ne_of ec ea (fun z => nomatch z))]
      exact ec
end
end SDR
end
section
set_option Elab.async false
set_option linter.all false
set_option maxRecDepth 100000
set_option maxHeartbeats 4000000
/-! what a reading evaluates to, by predicates of a value and a heap that grows -/
namespace SD
open PySem L2 Evl SDR

/-! ### data: None, bools, ints, tuples -/
mutual
inductive Is (H : Hp) : V → PyData → Prop
  | non : Is H .non .none
  | bl (b : Bool) : Is H (.bl b) (.bool b)
  | int (i : Int) : Is H (.int i) (.int i)
  | tup {a : Addr} {xs : List V} {ds : List PyData} : H a = some (.tup xs) → Iss H xs ds → Is H (.ref a) (.tuple ds)
inductive Iss (H : Hp) : List V → List PyData → Prop
  | nil : Iss H [] []
  | cons {v : V} {vs : List V} {d : PyData} {ds : List PyData} : Is H v d → Iss H vs ds → Iss H (v :: vs) (d :: ds)
end
/-- tuples stay -/
def Tsm (H H' : Hp) : Prop := ∀ (a : Addr) (xs : List V), H a = some (.tup xs) → H' a = some (.tup xs)
section
variable {H H' H2 : Hp} {v : V} {d : PyData} {xs ys : List V} {ds es : List PyData} {K : PySem.W.Frag}
theorem Tsm.ex (e : Ex H H') : Tsm H H' := fun a xs h => e a _ h
theorem Tsm.refl (H : Hp) : Tsm H H := fun _ _ h => h
theorem Tsm.trans (a : Tsm H H') (b : Tsm H' H2) : Tsm H H2 := fun x l h => b x l (a x l h)
theorem Tsm.updO {a : Addr} {o o0 : HO} (h : H a = some o0) (n : ∀ xs, o0 ≠ .tup xs) : Tsm H (upd H a o) := fun b l hb => by
  rw [upd_ne (fun e => by rw [e, h] at hb; exact n l (Option.some.inj hb))]
  exact hb
theorem Tsm.updL {a : Addr} {o : HO} (h : H a = some (.lst xs)) : Tsm H (upd H a o) := Tsm.updO h fun _ z => nomatch z
mutual
theorem Is.mono (T : Tsm H H') : ∀ (d : PyData) (v : V), Is H v d → Is H' v d
  | .none, _, h => by cases h; exact .non
  | .bool _, _, h => by cases h; exact .bl _
  | .int _, _, h => by cases h; exact .int _
  | .tuple ds, _, h => by
    cases h with
    | tup h1 h2 => exact .tup (T _ _ h1) (Iss.mono T ds _ h2)
  | .str _, _, h => by cases h
  | .list _, _, h => by cases h
  | .dict _, _, h => by cases h
theorem Iss.mono (T : Tsm H H') : ∀ (ds : List PyData) (vs : List V), Iss H vs ds → Iss H' vs ds
  | [], _, h => by cases h; exact .nil
  | d :: ds, _, h => by
    cases h with
    | cons h1 h2 => exact .cons (Is.mono T d _ h1) (Iss.mono T ds _ h2)
end
mutual
theorem Is.dp : ∀ (d : PyData) (v : V), Is H v d → Dp K H v d
  | .none, _, h => by cases h; exact .non
  | .bool _, _, h => by cases h; exact .bl _
  | .int _, _, h => by cases h; exact .int _
  | .tuple ds, _, h => by
    cases h with
    | tup h1 h2 => exact .tup (SqT.of h1) (Iss.dp ds _ h2)
  | .str _, _, h => by cases h
  | .list _, _, h => by cases h
  | .dict _, _, h => by cases h
theorem Iss.dp : ∀ (ds : List PyData) (vs : List V), Iss H vs ds → DpAll K H vs ds
  | [], _, h => by cases h; exact .nil
  | d :: ds, _, h => by
    cases h with
    | cons h1 h2 => exact .cons (Is.dp d _ h1) (Iss.dp ds _ h2)
end
theorem Is.m (T : Tsm H H') (h : Is H v d) : Is H' v d := Is.mono T d v h
theorem Iss.m (T : Tsm H H') (h : Iss H xs ds) : Iss H' xs ds := Iss.mono T ds xs h
theorem is_int {i : Int} : Is H v (.int i) ↔ v = .int i := ⟨fun h => by cases h; rfl, fun h => by subst h; exact .int i⟩
theorem is_none : Is H v .none ↔ v = .non := ⟨fun h => by cases h; rfl, fun h => by subst h; exact .non⟩
theorem is_bool {b : Bool} : Is H v (.bool b) ↔ v = .bl b := ⟨fun h => by cases h; rfl, fun h => by subst h; exact .bl b⟩
theorem is_tup : Is H v (.tuple ds) ↔ ∃ a xs, v = .ref a ∧ H a = some (.tup xs) ∧ Iss H xs ds := ⟨fun h => by cases h with | tup h1 h2 => exact ⟨_, _, rfl, h1, h2⟩, fun ⟨a, xs, e, h1, h2⟩ => by subst e; exact .tup h1 h2⟩
theorem Iss.len : ∀ {xs : List V} {ds : List PyData}, Iss H xs ds → xs.length = ds.length
  | _, _, .nil => rfl
  | _, _, .cons _ t => by rw [List.length_cons, List.length_cons, Iss.len t]
theorem Iss.get : ∀ {xs : List V} {ds : List PyData} {i : Nat} {d : PyData}, Iss H xs ds → ds[i]? = some d → ∃ v, xs[i]? = some v ∧ Is H v d
  | _, _, _, _, .nil, e => by simp at e
  | _, _, 0, _, .cons h _, e => by simp at e; subst e; exact ⟨_, rfl, h⟩
  | _, _, i + 1, d, .cons _ t, e => by
    obtain ⟨v, h1, h2⟩ := Iss.get (i := i) (d := d) t (by simpa using e)
    exact ⟨v, by simpa using h1, h2⟩
theorem Iss.get' : ∀ {xs : List V} {ds : List PyData} {i : Nat} {v : V}, Iss H xs ds → xs[i]? = some v → ∃ d, ds[i]? = some d ∧ Is H v d
  | _, _, _, _, .nil, e => by simp at e
  | _, _, 0, _, .cons h _, e => by simp at e; subst e; exact ⟨_, rfl, h⟩
  | _, _, i + 1, v, .cons _ t, e => by
    obtain ⟨d, h1, h2⟩ := Iss.get' (i := i) (v := v) t (by simpa using e)
    exact ⟨d, by simpa using h1, h2⟩
theorem Iss.app : ∀ {xs ys : List V} {ds es : List PyData}, Iss H xs ds → Iss H ys es → Iss H (xs ++ ys) (ds ++ es)
  | _, _, _, _, .nil, s => s
  | _, _, _, _, .cons h t, s => .cons h (Iss.app t s)
theorem Iss.snoc (h : Iss H xs ds) (hv : Is H v d) : Iss H (xs ++ [v]) (ds ++ [d]) := h.app (.cons hv .nil)
theorem Iss.rev : ∀ {xs : List V} {ds : List PyData}, Iss H xs ds → Iss H xs.reverse ds.reverse
  | _, _, .nil => .nil
  | _, _, .cons h t => by
    rw [List.reverse_cons, List.reverse_cons]
    exact (Iss.rev t).snoc h
theorem Iss.take : ∀ {xs : List V} {ds : List PyData} (n : Nat), Iss H xs ds → Iss H (xs.take n) (ds.take n)
  | _, _, 0, _ => .nil
  | _, _, _ + 1, .nil => .nil
  | _, _, n + 1, .cons h t => .cons h (Iss.take n t)
theorem Iss.drop : ∀ {xs : List V} {ds : List PyData} (n : Nat), Iss H xs ds → Iss H (xs.drop n) (ds.drop n)
  | _, _, 0, h => h
  | _, _, _ + 1, .nil => .nil
  | _, _, n + 1, .cons _ t => Iss.drop n t
theorem iss_ints : ∀ {ns : List Int} {xs : List V}, Iss H xs (ns.map .int) ↔ xs = ns.map V.int
  | [], xs => ⟨fun h => by cases h; rfl, fun h => by subst h; exact .nil⟩
  | n :: ns, xs => ⟨fun h => by
      rw [List.map_cons] at h
      cases h with
      | cons h1 h2 => rw [is_int.mp h1, iss_ints.mp h2]; rfl, fun h => by
      subst h
      exact .cons (.int n) (iss_ints.mpr rfl)⟩
theorem iss_bools : ∀ {ns : List Bool} {xs : List V}, Iss H xs (ns.map .bool) ↔ xs = ns.map V.bl
  | [], xs => ⟨fun h => by cases h; rfl, fun h => by subst h; exact .nil⟩
  | n :: ns, xs => ⟨fun h => by
      rw [List.map_cons] at h
      cases h with
      | cons h1 h2 => rw [is_bool.mp h1, iss_bools.mp h2]; rfl, fun h => by
      subst h
      exact .cons (.bl n) (iss_bools.mpr rfl)⟩
/-- a tuple of ints -/
abbrev dI (ns : List Int) : PyData := .tuple (ns.map .int)
theorem is_dI {ns : List Int} : Is H v (dI ns) ↔ ∃ a, v = .ref a ∧ H a = some (.tup (ns.map V.int)) := by
  rw [is_tup]
  constructor
  · rintro ⟨a, xs, e, h1, h2⟩
    rw [iss_ints.mp h2] at h1
    exact ⟨a, e, h1⟩
  · rintro ⟨a, e, h1⟩
    exact ⟨a, _, e, h1, iss_ints.mpr rfl⟩
end

/-! ### predicates that stay while the heap grows -/
abbrev Pr := V → Hp → Prop
class Mo (P : Pr) : Prop where
  mo : ∀ (v : V) (H H' : Hp), Ex H H' → P v H → P v H'
def pD (d : PyData) : Pr := fun v H => Is H v d
def pL (ds : List PyData) : Pr := fun v H => ∃ a xs, v = .ref a ∧ H a = some (.lst xs) ∧ Iss H xs ds
def pV (z : V) : Pr := fun v _ => v = z
abbrev pI (i : Int) : Pr := pV (.int i)
abbrev pB (b : Bool) : Pr := pV (.bl b)
instance {d : PyData} : Mo (pD d) := ⟨fun v H H' e h => Is.m (Tsm.ex e) h⟩
instance {ds : List PyData} : Mo (pL ds) := ⟨fun v H H' e ⟨a, xs, ev, h1, h2⟩ => ⟨a, xs, ev, e _ _ h1, h2.m (Tsm.ex e)⟩⟩
instance {z : V} : Mo (pV z) := ⟨fun v H H' e h => h⟩
/-- arguments, one predicate each -/
def Pl : List Pr → List V → Hp → Prop
  | [], [], _ => True
  | P :: Ps, v :: vs, H => P v H ∧ Pl Ps vs H
  | _, _, _ => False
class MoL (Ps : List Pr) : Prop where
  mo : ∀ (vs : List V) (H H' : Hp), Ex H H' → Pl Ps vs H → Pl Ps vs H'
instance : MoL [] := ⟨fun vs H H' e h => by cases vs with | nil => exact h | cons => exact h⟩
instance {P : Pr} {Ps : List Pr} [m : Mo P] [ms : MoL Ps] : MoL (P :: Ps) := ⟨fun vs H H' e h => by
  cases vs with
  | nil => exact h
  | cons v vs => exact ⟨m.mo v H H' e h.1, ms.mo vs H H' e h.2⟩⟩
theorem Pl.len : ∀ {Ps : List Pr} {vs : List V} {H : Hp}, Pl Ps vs H → vs.length = Ps.length
  | [], [], _, _ => rfl
  | _ :: _, _ :: _, _, h => by rw [List.length_cons, List.length_cons, Pl.len h.2]
  | [], _ :: _, _, h => h.elim
  | _ :: _, [], _, h => h.elim
theorem pl0 {vs : List V} {H : Hp} (h : Pl [] vs H) : vs = [] := by cases vs with | nil => rfl | cons => exact h.elim
theorem pl1 {P : Pr} {vs : List V} {H : Hp} (h : Pl [P] vs H) : ∃ v, vs = [v] ∧ P v H := by
  match vs, h with
  | [v], h => exact ⟨v, rfl, h.1⟩
theorem pl2 {P1 P2 : Pr} {vs : List V} {H : Hp} (h : Pl [P1, P2] vs H) : ∃ v1 v2, vs = [v1, v2] ∧ P1 v1 H ∧ P2 v2 H := by
  match vs, h with
  | [v, u], h => exact ⟨v, u, rfl, h.1, h.2.1⟩
theorem pl3 {P1 P2 P3 : Pr} {vs : List V} {H : Hp} (h : Pl [P1, P2, P3] vs H) : ∃ v1 v2 v3, vs = [v1, v2, v3] ∧ P1 v1 H ∧ P2 v2 H ∧ P3 v3 H := by
  match vs, h with
  | [v, u, w], h => exact ⟨v, u, w, rfl, h.1, h.2.1, h.2.2.1⟩
theorem pl4 {P1 P2 P3 P4 : Pr} {vs : List V} {H : Hp} (h : Pl [P1, P2, P3, P4] vs H) : ∃ v1 v2 v3 v4, vs = [v1, v2, v3, v4] ∧ P1 v1 H ∧ P2 v2 H ∧ P3 v3 H ∧ P4 v4 H := by
  match vs, h with
  | [v, u, w, x], h => exact ⟨v, u, w, x, rfl, h.1, h.2.1, h.2.2.1, h.2.2.2.1⟩

/-! ### evaluation -/
def EvP (te : TE) (σ : L2.St) (H : Hp) (P : Pr) : Prop := ∀ H1, Ex H H1 → ∀ Q : VK, (∀ v H2, Ex H1 H2 → P v H2 → Q v H2) → te σ H1 Q
def EvPs (ta : TA) (σ : L2.St) (H : Hp) (P : List V → Hp → Prop) : Prop := ∀ H1, Ex H H1 → ∀ Q : List V → Hp → Prop, (∀ vs H2, Ex H1 H2 → P vs H2 → Q vs H2) → ta σ H1 Q
/-- a new list -/
def EvN (te : TE) (σ : L2.St) (H : Hp) (ds : List PyData) : Prop := ∀ H1, Ex H H1 → ∀ Q : VK, (∀ p xs H2, H1 p = none → Ex H1 H2 → H2 p = some (.lst xs) → Iss H2 xs ds → Q (.ref p) H2) → te σ H1 Q
section
variable {K : PySem.W.Frag} {σ : L2.St} {H H' : Hp} {ta tb tc te : TE} {t u : TT} {P P1 P2 P3 : Pr} {v x y z : V} {d : PyData} {ds es : List PyData} {i j : Nat}
theorem EvP.up (e : Ex H H') (h : EvP te σ H P) : EvP te σ H' P := fun H1 a Q q => h H1 (e.trans a) Q q
theorem EvPs.up {ta : TA} {R : List V → Hp → Prop} (e : Ex H H') (h : EvPs ta σ H R) : EvPs ta σ H' R := fun H1 a Q q => h H1 (e.trans a) Q q
theorem EvP.wk (h : EvP te σ H P1) (w : ∀ v H', Ex H H' → P1 v H' → P2 v H') : EvP te σ H P2 := fun H1 e Q q => h H1 e Q fun v H2 e2 p => q v H2 e2 (w v H2 (e.trans e2) p)
theorem evp (h : Ev te σ H v) : EvP te σ H (pV v) := fun H1 e Q q => h H1 e Q fun H2 e2 => q v H2 e2 rfl
theorem ev_of (h : EvP te σ H (pV v)) : Ev te σ H v := fun H1 e Q q => h H1 e Q fun w H2 e2 p => by
  have p : w = v := p
  subst p
  exact q H2 e2
theorem evp_is [m : Mo P] (h : Ev te σ H v) (p : P v H) : EvP te σ H P := fun H1 e Q q => h H1 e Q fun H2 e2 => q v H2 e2 (m.mo v H H2 (e.trans e2) p)
theorem evp_var [m : Mo P] (h : σ[i]? = some (some v)) (p : P v H) : EvP (tVar i) σ H P := evp_is (ev_var h) p
theorem evp_n (h : EvN te σ H ds) : EvP te σ H (pL ds) := fun H1 e Q q => h H1 e Q fun p xs H2 _ e2 h1 h2 => q _ H2 e2 ⟨p, xs, rfl, h1, h2⟩
theorem evd_int {k : Int} (h : Ev te σ H (.int k)) : EvP te σ H (pD (.int k)) := evp_is h (.int k)
theorem evd_bool {b : Bool} (h : Ev te σ H (.bl b)) : EvP te σ H (pD (.bool b)) := evp_is h (.bl b)
theorem evi {k : Int} (h : EvP te σ H (pD (.int k))) : Ev te σ H (.int k) := ev_of (h.wk fun v H' _ p => is_int.mp p)

/-! arguments -/
theorem evps_nil : EvPs tNil σ H (Pl []) := fun H1 _ Q q => q [] H1 (Ex.refl H1) trivial
theorem evps_cons {tr : TA} {Ps : List Pr} [m : Mo P] (h : EvP te σ H P) (hr : EvPs tr σ H (Pl Ps)) : EvPs (tCons te tr) σ H (Pl (P :: Ps)) := fun H1 e Q q =>
  h H1 e _ fun v H2 e2 p => hr H2 (e.trans e2) _ fun vs H3 e3 ps => q _ H3 (e2.trans e3) ⟨m.mo v H2 H3 e3 p, ps⟩
/-! data in a row -/
abbrev EvD (te : TE) (σ : L2.St) (H : Hp) (d : PyData) : Prop := EvP te σ H (pD d)
abbrev EvDs (ta : TA) (σ : L2.St) (H : Hp) (ds : List PyData) : Prop := EvPs ta σ H fun vs H => Iss H vs ds
theorem evds_nil : EvDs tNil σ H [] := fun H1 _ Q q => q [] H1 (Ex.refl H1) .nil
theorem evds_cons {tr : TA} (h : EvD te σ H d) (hr : EvDs tr σ H ds) : EvDs (tCons te tr) σ H (d :: ds) := fun H1 e Q q =>
  h H1 e _ fun v H2 e2 p => hr H2 (e.trans e2) _ fun vs H3 e3 ps => q _ H3 (e2.trans e3) (.cons (Is.m (Tsm.ex e3) p) ps)
theorem evd_tup {ta : TA} (h : EvDs ta σ H ds) (hl : ds.length ≤ 100000) : EvD (tTup ta) σ H (.tuple ds) := fun H1 e Q q =>
  h H1 e _ fun vs H2 e2 p => ⟨sz_of (by rw [p.len]; exact hl), fun a ha => q _ _ (e2.trans (Ex.new ha)) (.tup upd_same (p.m (Tsm.ex (Ex.new ha))))⟩
theorem evn_lst {ta : TA} (h : EvDs ta σ H ds) (hl : ds.length ≤ 100000) : EvN (tLst ta) σ H ds := fun H1 e Q q =>
  h H1 e _ fun vs H2 e2 p => ⟨sz_of (by rw [p.len]; exact hl), fun a ha => q _ _ _ (fresh_back e2 ha) (e2.trans (Ex.new ha)) upd_same (p.m (Tsm.ex (Ex.new ha)))⟩
/-! operators -/
theorem evp_op {r : R2} [m : Mo P1] (ha : EvP ta σ H P1) (hb : EvP tb σ H P2) (hr : ∀ H1 x y, Ex H H1 → P1 x H1 → P2 y H1 → ∀ Q : VK, (∀ v H2, Ex H1 H2 → P v H2 → Q v H2) → r x y H1 Q) : EvP (tOp r ta tb) σ H P := fun H1 e Q q =>
  ha H1 e _ fun x H2 e2 p1 => hb H2 (e.trans e2) _ fun y H3 e3 p2 => hr H3 x y ((e.trans e2).trans e3) (m.mo x H2 H3 e3 p1) p2 Q fun v H4 e4 p => q v H4 ((e2.trans e3).trans e4) p
theorem evd_cat (ha : EvD ta σ H (.tuple ds)) (hb : EvD tb σ H (.tuple es)) (hl : ds.length + es.length ≤ 100000) : EvD (tOp (rCatA K) ta tb) σ H (.tuple (ds ++ es)) := evp_op ha hb fun H1 x y _ p1 p2 Q q => by
  obtain ⟨a, xs, rfl, h1, h2⟩ := is_tup.mp p1
  obtain ⟨b, ys, rfl, h3, h4⟩ := is_tup.mp p2
  have l1 := h2.len
  have l2 := h4.len
  refine ⟨a, b, xs, ys, rfl, rfl, SqT.of h1, SqT.of h3, sz_of (by omega), fun ex => ?_, fun _ ey => ?_, fun _ _ p hp => ?_⟩
  · subst ex
    cases h2
    exact q _ H1 (Ex.refl H1) (.tup h3 h4)
  · subst ey
    cases h4
    rw [List.append_nil] at q
    exact q _ H1 (Ex.refl H1) (.tup h1 h2)
  · exact q _ _ (Ex.new hp) (.tup upd_same ((h2.app h4).m (Tsm.ex (Ex.new hp))))
theorem evn_cat (ha : EvP ta σ H (pL ds)) (hb : EvP tb σ H (pL es)) (hl : ds.length + es.length ≤ 100000) : EvN (tOp rCat ta tb) σ H (ds ++ es) := fun H1 e Q q =>
  ha H1 e _ fun x H2 e2 ⟨a, xs, ex, h1, h2⟩ => hb H2 (e.trans e2) _ fun y H3 e3 ⟨b, ys, ey, h3, h4⟩ => by
    have l1 := h2.len
    have l2 := h4.len
    exact ⟨a, b, xs, ys, ex, ey, e3 _ _ h1, h3, sz_of (by omega), fun p hp => q p _ _ (fresh_back (e2.trans e3) hp) ((e2.trans e3).trans (Ex.new hp)) upd_same (((h2.m (Tsm.ex e3)).app h4).m (Tsm.ex (Ex.new hp)))⟩
/-- an item of a tuple, of a list -/
theorem evd_ixT {k : Int} (ha : EvD ta σ H (.tuple ds)) (hb : Ev tb σ H (.int k)) (hk : ∃ j, ixN ds.length k = some j ∧ ds[j]? = some d) : EvD (tOp (rIxT K) ta tb) σ H d := evp_op ha (evp hb) fun H1 x y _ p1 p2 Q q => by
  obtain ⟨a, xs, rfl, h1, h2⟩ := is_tup.mp p1
  have p2 : y = .int k := p2
  subst p2
  obtain ⟨j, hj, hd⟩ := hk
  obtain ⟨v, hv, hi⟩ := h2.get hd
  refine ⟨a, xs, k, v, rfl, rfl, SqT.of h1, ?_, q v H1 (Ex.refl H1) hi⟩
  unfold atI
  rw [h2.len, hj]
  exact hv
theorem evd_ixL {k : Int} (ha : EvP ta σ H (pL ds)) (hb : Ev tb σ H (.int k)) (hk : ∃ j, ixN ds.length k = some j ∧ ds[j]? = some d) : EvD (tOp (rIxL K) ta tb) σ H d := evp_op ha (evp hb) fun H1 x y _ p1 p2 Q q => by
  obtain ⟨a, xs, rfl, h1, h2⟩ := p1
  have p2 : y = .int k := p2
  subst p2
  obtain ⟨j, hj, hd⟩ := hk
  obtain ⟨v, hv, hi⟩ := h2.get hd
  refine ⟨a, xs, k, v, rfl, rfl, SqL.of h1, ?_, q v H1 (Ex.refl H1) hi⟩
  unfold atI
  rw [h2.len, hj]
  exact hv
theorem ix_nat {n k : Nat} {l : List PyData} (h : l[k]? = some d) (e : n = l.length) : ∃ j, ixN n (k : Int) = some j ∧ l[j]? = some d := by
  have := (List.getElem?_eq_some_iff.mp h).1
  exact ⟨k, ixN_nat (by omega), h⟩
theorem ix_of {k : Int} {l : List PyData} (h0 : 0 ≤ k) (h : l[k.toNat]? = some d) : ∃ j, ixN l.length k = some j ∧ l[j]? = some d := by
  have := ix_nat h rfl
  rw [Int.toNat_of_nonneg h0] at this
  exact this
theorem ix_last {l : List PyData} : ∃ j, ixN (l ++ [d]).length (-1) = some j ∧ (l ++ [d])[j]? = some d := by
  refine ⟨l.length, ?_, by simp⟩
  unfold ixN
  rw [if_neg (by decide), if_pos (by simp; omega)]
  simp
  omega
/-- slices -/
def cutD (xs : List PyData) (lo hi : Option Int) : List PyData := (xs.drop (HT.sIx xs.length 0 lo)).take (HT.sIx xs.length xs.length hi - HT.sIx xs.length 0 lo)
theorem iss_cut {xs : List V} {lo hi : Option Int} (h : Iss H xs ds) : Iss H (cutV xs lo hi) (cutD ds lo hi) := by
  unfold cutV cutD
  rw [h.len]
  exact (h.drop _).take _
theorem evd_sl {tl th : TO} {lo hi : Option Int} (h : EvD te σ H (.tuple ds)) (h1 : EvO tl σ H lo) (h2 : EvO th σ H hi) : EvD (tSl (rSlA K) te tl th) σ H (.tuple (cutD ds lo hi)) := fun H1 e Q q =>
  h H1 e _ fun x H2 e2 p => h1 H2 (e.trans e2) _ fun H3 e3 => h2 H3 ((e.trans e2).trans e3) _ fun H4 e4 => by
    obtain ⟨a, xs, rfl, g1, g2⟩ := is_tup.mp p
    have g3 := g2.m (Tsm.ex (e3.trans e4))
    refine ⟨a, xs, rfl, SqT.of (e4 _ _ (e3 _ _ g1)), fun hw => ?_, fun _ p hp => ?_⟩
    · refine q _ H4 ((e2.trans e3).trans e4) (.tup (e4 _ _ (e3 _ _ g1)) ?_)
      have ec : cutD ds lo hi = ds := by
        unfold cutD
        rw [← g2.len, hw.1, hw.2, List.drop_zero, Nat.sub_zero, g2.len, List.take_length]
      rw [ec]
      exact g3
    · exact q _ _ (((e2.trans e3).trans e4).trans (Ex.new hp)) (.tup upd_same ((iss_cut g3).m (Tsm.ex (Ex.new hp))))
theorem evn_sl {tl th : TO} {lo hi : Option Int} (h : EvP te σ H (pL ds)) (h1 : EvO tl σ H lo) (h2 : EvO th σ H hi) : EvN (tSl (rSlL K) te tl th) σ H (cutD ds lo hi) := fun H1 e Q q =>
  h H1 e _ fun x H2 e2 ⟨a, xs, ex, g1, g2⟩ => h1 H2 (e.trans e2) _ fun H3 e3 => h2 H3 ((e.trans e2).trans e3) _ fun H4 e4 =>
    ⟨a, xs, ex, SqL.of (e4 _ _ (e3 _ _ g1)), fun p hp => q p _ _ (fresh_back ((e2.trans e3).trans e4) hp) (((e2.trans e3).trans e4).trans (Ex.new hp)) upd_same ((iss_cut (g2.m (Tsm.ex (e3.trans e4)))).m (Tsm.ex (Ex.new hp)))⟩
theorem evd_rev (h : EvD te σ H (.tuple ds)) : EvD (tRevT K te) σ H (.tuple ds.reverse) := fun H1 e Q q =>
  h H1 e _ fun x H2 e2 p => by
    obtain ⟨a, xs, rfl, g1, g2⟩ := is_tup.mp p
    exact ⟨a, xs, rfl, SqT.of g1, fun p hp => q _ _ (e2.trans (Ex.new hp)) (.tup upd_same (g2.rev.m (Tsm.ex (Ex.new hp))))⟩
theorem evn_rev (h : EvP te σ H (pL ds)) : EvN (tRevL K te) σ H ds.reverse := fun H1 e Q q =>
  h H1 e _ fun x H2 e2 ⟨a, xs, ex, g1, g2⟩ => ⟨a, xs, ex, SqL.of g1, fun p hp => q p _ _ (fresh_back e2 hp) (e2.trans (Ex.new hp)) upd_same (g2.rev.m (Tsm.ex (Ex.new hp)))⟩
/-- t * k -/
theorem evd_rep {k : Int} (ha : EvD ta σ H (.tuple [d])) (hb : Ev tb σ H (.int k)) (h0 : 0 ≤ k) (h1 : k ≤ 1000) : EvD (tOp (rRepA K) ta tb) σ H (.tuple (List.replicate k.toNat d)) := evp_op ha (evp hb) fun H1 x y _ p1 p2 Q q => by
  obtain ⟨a, xs, rfl, g1, g2⟩ := is_tup.mp p1
  have p2 : y = .int k := p2
  subst p2
  cases g2 with
  | @cons v vs _ _ hv ht =>
    cases ht
    refine ⟨a, k, v, rfl, rfl, SqT.of g1, h0, h1, fun e1 => ?_, fun _ p hp => ?_⟩
    · subst e1
      exact q _ H1 (Ex.refl H1) (.tup g1 (.cons hv .nil))
    · refine q _ _ (Ex.new hp) (.tup upd_same ?_)
      have hh : ∀ n : Nat, Iss H1 (List.replicate n v) (List.replicate n d) := fun n => by
        induction n with
        | zero => exact .nil
        | succ n ih => rw [List.replicate_succ, List.replicate_succ]; exact .cons hv ih
      exact (hh k.toNat).m (Tsm.ex (Ex.new hp))
/-- == and != of equal data; with None -/
theorem ev_eqD (ha : EvD ta σ H d) (hb : EvD tb σ H d) (hs : SeqAt.shaped d = true) : Ev (tOp (rEqD K) ta tb) σ H (.bl true) := ev_of (evp_op ha hb fun H1 x y _ p1 p2 Q q => by
  refine ⟨d, d, Is.dp _ _ p1, Is.dp _ _ p2, hs, hs, ?_⟩
  rw [SeqAt.eqv_refl d (SeqAt.canLay_of_shaped hs)]
  exact q _ H1 (Ex.refl H1) rfl)
theorem ev_neD (ha : EvD ta σ H d) (hb : EvD tb σ H d) (hs : SeqAt.shaped d = true) : Ev (tOp (rNeD K) ta tb) σ H (.bl false) := ev_of (evp_op ha hb fun H1 x y _ p1 p2 Q q => by
  refine ⟨d, d, Is.dp _ _ p1, Is.dp _ _ p2, hs, hs, ?_⟩
  rw [SeqAt.eqv_refl d (SeqAt.canLay_of_shaped hs)]
  exact q _ H1 (Ex.refl H1) rfl)
theorem ev_isN (ha : EvD ta σ H .none) : Ev (tOp (fun x y H Q => y = .non ∧ Q (.bl (decide (x = .non))) H) ta (tC .non)) σ H (.bl true) := fun H1 e Q q =>
  ha H1 e _ fun x H2 e2 p => by
    have p := is_none.mp p
    subst p
    exact ⟨rfl, q H2 e2⟩
theorem ev_isN0 (ha : EvD ta σ H (.tuple ds)) : Ev (tOp (fun x y H Q => y = .non ∧ Q (.bl (decide (x = .non))) H) ta (tC .non)) σ H (.bl false) := fun H1 e Q q =>
  ha H1 e _ fun x H2 e2 p => by
    obtain ⟨a, xs, rfl, _⟩ := is_tup.mp p
    exact ⟨rfl, q H2 e2⟩
theorem ev_notN0 (ha : EvD ta σ H .none) : Ev (tOp (fun x y H Q => y = .non ∧ Q (.bl (!decide (x = .non))) H) ta (tC .non)) σ H (.bl false) := fun H1 e Q q =>
  ha H1 e _ fun x H2 e2 p => by
    have p := is_none.mp p
    subst p
    exact ⟨rfl, q H2 e2⟩
theorem ev_notN (ha : EvD ta σ H (.tuple ds)) : Ev (tOp (fun x y H Q => y = .non ∧ Q (.bl (!decide (x = .non))) H) ta (tC .non)) σ H (.bl true) := fun H1 e Q q =>
  ha H1 e _ fun x H2 e2 p => by
    obtain ⟨a, xs, rfl, _⟩ := is_tup.mp p
    exact ⟨rfl, q H2 e2⟩
/-- fields, exact -/
theorem ev_fld {a C dx : Addr} {fs : List (Str × V)} {f : Str} (ha : Ev ta σ H (.ref a)) (ho : H a = some (.ins C dx fs)) (c : Cls K C) (n : NoAttr K C f) (hl : fs.lookup f = some v) : Ev (tFld K ta f) σ H v := fun H1 e Q q =>
  ha H1 e _ fun H2 e2 => ⟨a, C, dx, fs, v, rfl, e2 _ _ (e _ _ ho), c, n, hl, q H2 e2⟩
/-- len -/
theorem ev_lenT (ha : EvD ta σ H (.tuple ds)) : Ev (tCB (fun xs H Q => ∃ p ys, xs = [.ref p] ∧ (SqL K H p ys ∨ SqT K H p ys) ∧ Q (.int ys.length) H) (tCons ta tNil)) σ H (.int (ds.length : Int)) := fun H1 e Q q =>
  ha H1 e _ fun x H2 e2 p => by
    obtain ⟨a, xs, rfl, g1, g2⟩ := is_tup.mp p
    refine ⟨a, xs, rfl, .inr (SqT.of g1), ?_⟩
    rw [g2.len]
    exact q H2 e2
theorem ev_lenL (ha : EvP ta σ H (pL ds)) : Ev (tCB (fun xs H Q => ∃ p ys, xs = [.ref p] ∧ (SqL K H p ys ∨ SqT K H p ys) ∧ Q (.int ys.length) H) (tCons ta tNil)) σ H (.int (ds.length : Int)) := fun H1 e Q q =>
  ha H1 e _ fun x H2 e2 ⟨a, xs, ex, g1, g2⟩ => by
    refine ⟨a, xs, by rw [ex], .inl (SqL.of g1), ?_⟩
    rw [g2.len]
    exact q H2 e2
/-- tuple(x), list(x) -/
theorem evd_tupT (ha : EvD ta σ H (.tuple ds)) : EvD (tCB (fun xs H Q => ∃ p ys, xs = [.ref p] ∧ ((SqL K H p ys ∧ ∀ l, H l = none → Q (.ref l) (upd H l (.tup ys))) ∨ (SqT K H p ys ∧ Q (.ref p) H))) (tCons ta tNil)) σ H (.tuple ds) := fun H1 e Q q =>
  ha H1 e _ fun x H2 e2 p => by
    obtain ⟨a, xs, rfl, g1, g2⟩ := is_tup.mp p
    exact ⟨a, xs, rfl, .inr ⟨SqT.of g1, q _ H2 e2 (.tup g1 g2)⟩⟩
theorem evd_tupL (ha : EvP ta σ H (pL ds)) : EvD (tCB (fun xs H Q => ∃ p ys, xs = [.ref p] ∧ ((SqL K H p ys ∧ ∀ l, H l = none → Q (.ref l) (upd H l (.tup ys))) ∨ (SqT K H p ys ∧ Q (.ref p) H))) (tCons ta tNil)) σ H (.tuple ds) := fun H1 e Q q =>
  ha H1 e _ fun x H2 e2 ⟨a, xs, ex, g1, g2⟩ => ⟨a, xs, by rw [ex], .inl ⟨SqL.of g1, fun l hl => q _ _ (e2.trans (Ex.new hl)) (.tup upd_same (g2.m (Tsm.ex (Ex.new hl))))⟩⟩
theorem evn_list (ha : EvP ta σ H (pL ds)) : EvN (tCB (fun xs H Q => ∃ p ys, xs = [.ref p] ∧ (SqL K H p ys ∨ SqT K H p ys) ∧ ∀ l, H l = none → Q (.ref l) (upd H l (.lst ys))) (tCons ta tNil)) σ H ds := fun H1 e Q q =>
  ha H1 e _ fun x H2 e2 ⟨a, xs, ex, g1, g2⟩ => ⟨a, xs, by rw [ex], .inl (SqL.of g1), fun l hl => q l _ _ (fresh_back e2 hl) (e2.trans (Ex.new hl)) upd_same (g2.m (Tsm.ex (Ex.new hl)))⟩
/-- int(x) of an int -/
theorem ev_int1 {k : Int} (ha : Ev ta σ H (.int k)) : Ev (tCB (fun xs H Q => (∃ i, xs = [.int i] ∧ Q (.int i) H) ∨ ∃ k, xs = [.bl k] ∧ Q (.int (if k then 1 else 0)) H) (tCons ta tNil)) σ H (.int k) := fun H1 e Q q =>
  ha H1 e _ fun H2 e2 => .inl ⟨k, rfl, q H2 e2⟩
/-- isinstance -/
theorem ev_isi {c : V} {tv uv : Value} {b : Bool} (ha : Ev ta σ H v) (hb : Ev tb σ H c) (hc : ClsV c uv) (ht : ∀ H', Ex H H' → TyX K H' v tv) (hk : PySem.W.kitOne K tv uv = some b) : Ev (tCB (rIsi K) (tCons ta (tCons tb tNil))) σ H (.bl b) := fun H1 e Q q =>
  ha H1 e _ fun H2 e2 => hb H2 (e.trans e2) _ fun H3 e3 => ⟨v, c, tv, uv, b, rfl, hc, ht H3 ((e.trans e2).trans e3), hk, q H3 (e2.trans e3)⟩
/-- a chain of two comparisons of ints -/
theorem ev_chain {f g : Int → Int → Bool} {a b c : Int} (ha : Ev ta σ H (.int a)) (hb : Ev tb σ H (.int b)) (hc : Ev tc σ H (.int c)) : Ev (tChain (rI0 fun i j => .bl (f i j)) (rI0 fun i j => .bl (g i j)) ta tb tc) σ H (.bl (f a b && g b c)) := fun H1 e Q q =>
  ha H1 e _ fun H2 e2 => hb H2 (e.trans e2) _ fun H3 e3 => ⟨a, b, rfl, rfl, f a b, rfl, by
    cases hf : f a b with
    | false =>
      rw [hf] at q
      exact q H3 (e2.trans e3)
    | true =>
      rw [hf] at q
      exact hc H3 ((e.trans e2).trans e3) _ fun H4 e4 => ⟨b, c, rfl, rfl, q H4 ((e2.trans e3).trans e4)⟩⟩
/-- truth of a tuple, of a list -/
theorem et_truT (ha : EvD ta σ H (.tuple ds)) : EvT (fun σ H Q => ta σ H fun x H' => ∃ k, TruV K x H' k ∧ Q k H') σ H (!ds.isEmpty) := fun H1 e Q q =>
  ha H1 e _ fun x H2 e2 p => by
    obtain ⟨a, xs, rfl, g1, g2⟩ := is_tup.mp p
    refine ⟨!ds.isEmpty, .inr (.inl ⟨xs, SqT.of g1, ?_⟩), q H2 e2⟩
    cases g2 <;> rfl
theorem et_truL (ha : EvP ta σ H (pL ds)) : EvT (fun σ H Q => ta σ H fun x H' => ∃ k, TruV K x H' k ∧ Q k H') σ H (!ds.isEmpty) := fun H1 e Q q =>
  ha H1 e _ fun x H2 e2 ⟨a, xs, ex, g1, g2⟩ => by
    subst ex
    refine ⟨!ds.isEmpty, .inl ⟨xs, SqL.of g1, ?_⟩, q H2 e2⟩
    cases g2 <;> rfl
theorem evp_if {b : Bool} (h : EvT t σ H b) (h1 : b = true → EvP ta σ H P) (h2 : b = false → EvP tb σ H P) : EvP (tIf t ta tb) σ H P := fun H1 e Q q => h H1 e _ fun H2 e2 => by
  cases b with
  | true =>
    show ta σ H2 Q
    exact h1 rfl H2 (e.trans e2) Q fun v H3 e3 p => q v H3 (e2.trans e3) p
  | false =>
    show tb σ H2 Q
    exact h2 rfl H2 (e.trans e2) Q fun v H3 e3 p => q v H3 (e2.trans e3) p

/-! ### promises and calls -/
/-- a def that only makes new objects: ghosts ι, what it asks, its arguments, its result -/
def spP {ι : Type} (pre : ι → Prop) (As : ι → List Pr) (R : ι → Pr) : Sp := fun vs H Q _ => ∃ i, pre i ∧ Pl (As i) vs H ∧ ∀ v H', Ex H H' → R i v H' → Q v H'
theorem evp_call {ι : Type} {pre : ι → Prop} {As : ι → List Pr} {R : ι → Pr} {E : XK} {ta : TA} (i : ι) (hp : pre i) (h : EvPs ta σ H (Pl (As i))) : EvP (tCall (spP pre As R) [] E ta) σ H (R i) := fun H1 e Q q =>
  h H1 e _ fun vs H2 e2 p => by
    rw [List.append_nil]
    exact ⟨i, hp, p, fun v H3 e3 r => q v H3 (e2.trans e3) r⟩
theorem evp_meth {ι : Type} {pre : ι → Prop} {As : ι → List Pr} {R : ι → Pr} {E : XK} {t : TA} {C a dx : Addr} {m : Str} {fs : List (Str × V)} {P0 : Pr} {Ps : List Pr} [mo : Mo P0] (i : ι) (hp : pre i) (hA : As i = P0 :: Ps) (ha : Ev ta σ H (.ref a)) (ho : H a = some (.ins C dx fs)) (hl : fs.lookup m = none)
    (p0 : P0 (.ref a) H) (h : EvPs t σ H (Pl Ps)) : EvP (tMeth C m (spP pre As R) [] E ta t) σ H (R i) := fun H1 e Q q =>
  ha H1 e _ fun H2 e2 => ⟨a, dx, fs, rfl, e2 _ _ (e _ _ ho), hl, h H2 (e.trans e2) _ fun vs H3 e3 p => by
    rw [List.append_nil]
    refine ⟨i, hp, ?_, fun v H4 e4 r => q v H4 ((e2.trans e3).trans e4) r⟩
    rw [hA]
    exact ⟨mo.mo _ H H3 ((e.trans e2).trans e3) p0, p⟩⟩
/-- an __init__ (H0: ahead of the object) -/
def spI {ι : Type} (C : Addr) (pre : ι → Prop) (As : ι → List Pr) (R : ι → Pr) : Sp := fun vs H Q _ => ∃ i p dx ws H0, vs = .ref p :: ws ∧ H p = some (.ins C dx []) ∧ H0 p = none ∧ Ex H0 H ∧ pre i ∧ Pl (As i) ws H0 ∧ ∀ H', Ex H0 H' → R i (.ref p) H' → Q .non H'
theorem evp_make {ι : Type} {C : Addr} {pre : ι → Prop} {As : ι → List Pr} {R : ι → Pr} {E : XK} {ta : TA} (i : ι) (hp : pre i) (h : EvPs ta σ H (Pl (As i))) : EvP (tMake C (spI C pre As R) [] E ta) σ H (R i) := fun H1 e Q q =>
  h H1 e _ fun vs H2 e2 p x dx hx hdx hne => by
    rw [List.append_nil]
    have eN : Ex H2 (upd (upd H2 dx (.own x)) x (.ins C dx [])) := fun b o hb => by
      rw [upd_ne (ne_of_none hb hx), upd_ne (ne_of_none hb hdx)]
      exact hb
    exact ⟨i, x, dx, vs, H2, rfl, upd_same, hx, eN, hp, p, fun H3 k r => ⟨rfl, q _ H3 (e2.trans k) r⟩⟩

/-! ### statements -/
variable {D : Ends} {tu tw tz : TS} {g : TG}
theorem s_asgP (h : EvP te σ H P) (k : ∀ v H1, Ex H H1 → P v H1 → D.nx (σ.set i (some v)) H1) : tAsg te (gName i) D σ H := h H (Ex.refl H) _ k
theorem q_asgP (h : EvP te σ H P) (k : ∀ v H1, Ex H H1 → P v H1 → tz D (σ.set i (some v)) H1) : tSeq (tAsg te (gName i)) tz D σ H := h H (Ex.refl H) _ k
theorem q_asgN (h : EvN te σ H ds) (k : ∀ p xs H1, H p = none → Ex H H1 → H1 p = some (.lst xs) → Iss H1 xs ds → tz D (σ.set i (some (.ref p))) H1) : tSeq (tAsg te (gName i)) tz D σ H := h H (Ex.refl H) _ k
theorem q_asgI {k : Int} (h : Ev te σ H (.int k)) (kk : ∀ H1, Ex H H1 → tz D (σ.set i (some (.int k))) H1) : tSeq (tAsg te (gName i)) tz D σ H := h H (Ex.refl H) _ kk
theorem s_retP (h : EvP te σ H P) (k : ∀ v H1, Ex H H1 → P v H1 → D.rt v H1) : tRet te D σ H := h H (Ex.refl H) _ k
/-- a, b, .. = a tuple of data -/
theorem q_unp {tg : TGs} {n : Nat} (h : EvD te σ H (.tuple ds)) (hn : ds.length = n) (k : ∀ xs H1, Ex H H1 → Iss H1 xs ds → tg xs σ H1 (fun σ' H' => tz D σ' H')) : tSeq (tAsg te (gTup K n tg)) tz D σ H :=
  h H (Ex.refl H) _ fun v H1 e p => by
    obtain ⟨a, xs, rfl, g1, g2⟩ := is_tup.mp p
    exact ⟨a, xs, rfl, SqT.of g1, by rw [g2.len]; exact hn, k xs H1 e g2⟩
/-- xs.append(e) -/
theorem s_appP {l : Addr} {xs : List V} (hl : H l = some (.lst xs)) (ha : Ev ta σ H (.ref l)) (h : EvP te σ H P) (hz : xs.length < 100000) (k : ∀ v H1, Ex H H1 → P v H1 → D.nx σ (upd H1 l (.lst (xs ++ [v])))) :
    tDrop (tBM K "list" rAppend ta (tCons te tNil)) D σ H := ha H (Ex.refl H) _ fun H1 e1 =>
  ⟨Or.inl ⟨rfl, xs, sq_of (e1 l _ hl)⟩, h H1 e1 _ fun v H2 e2 p => ⟨l, xs, v, rfl, rfl, e2 l _ (e1 l _ hl), sz_lt hz, k v H2 (e1.trans e2) p⟩⟩
theorem q_appP {l : Addr} {xs : List V} (hl : H l = some (.lst xs)) (ha : Ev ta σ H (.ref l)) (h : EvP te σ H P) (hz : xs.length < 100000) (k : ∀ v H1, Ex H H1 → P v H1 → tz D σ (upd H1 l (.lst (xs ++ [v])))) :
    tSeq (tDrop (tBM K "list" rAppend ta (tCons te tNil))) tz D σ H := s_appP (D := { D with nx := tz D }) hl ha h hz k

/-- o.f = e -/
theorem s_fldP {tv : TE} {a C dx : Addr} {fs : List (Str × V)} {f : Str} [m : Mo P] (h : EvP tv σ H P) (ha : Ev ta σ H (.ref a)) (ho : H a = some (.ins C dx fs)) (c : Cls K C) (n : NoAttr K C f) (hl : fs.length < 1000)
    (k : ∀ y H1, Ex H H1 → P y H1 → H1 a = some (.ins C dx fs) → D.nx σ (upd H1 a (.ins C dx (putF f y fs)))) : sFld K ta tv f D σ H :=
  h H (Ex.refl H) _ fun y H1 e1 p => ha H1 e1 _ fun H2 e2 => ⟨a, C, dx, fs, rfl, e2 _ _ (e1 _ _ ho), c, n, hl, k y H2 (e1.trans e2) (m.mo y H1 H2 e2 p) (e2 _ _ (e1 _ _ ho))⟩
theorem q_fldP {tv : TE} {a C dx : Addr} {fs : List (Str × V)} {f : Str} [m : Mo P] (h : EvP tv σ H P) (ha : Ev ta σ H (.ref a)) (ho : H a = some (.ins C dx fs)) (c : Cls K C) (n : NoAttr K C f) (hl : fs.length < 1000)
    (k : ∀ y H1, Ex H H1 → P y H1 → H1 a = some (.ins C dx fs) → tz D σ (upd H1 a (.ins C dx (putF f y fs)))) : tSeq (sFld K ta tv f) tz D σ H := s_fldP (D := { D with nx := tz D }) h ha ho c n hl k

/-! ### comprehensions over data -/
/-- what stands in the list at Dl behind i turns -/
def Cd (H : Hp) (ds : List PyData) (f : PyData → Bool) (e : PyData → PyData) (Dl : Addr) (i : Nat) (H' : Hp) : Prop := H Dl = none ∧ Ex H H' ∧ ∃ acc, H' Dl = some (.lst acc) ∧ Iss H' acc (((ds.take i).filter f).map e)
theorem cd_turn {H H' : Hp} {ds : List PyData} {f : PyData → Bool} {e : PyData → PyData} {Dl : Addr} {i : Nat} {d : PyData} {σ2 : L2.St} (p : Cd H ds f e Dl i H') (hd : ds[i]? = some d) (hz : ds.length ≤ 50000) (ht : EvT t σ2 H' (f d)) (he : f d = true → EvD te σ2 H' (e d)) :
    t σ2 H' fun b H3 => if b = true then te σ2 H3 fun y H4 => ∃ acc, H4 Dl = some (.lst acc) ∧ acc.length < sizeLine ∧ Cd H ds f e Dl (i + 1) (upd H4 Dl (.lst (acc ++ [y]))) else Cd H ds f e Dl (i + 1) H3 := by
  obtain ⟨p1, p2, acc, p3, p4⟩ := p
  have hi := (List.getElem?_eq_some_iff.mp hd).1
  have etake : ds.take (i + 1) = ds.take i ++ [d] := by
    rw [List.take_add_one, hd]
    rfl
  refine ht H' (Ex.refl H') _ fun H3 e3 => ?_
  cases hf : f d with
  | true =>
    show te σ2 H3 fun y H4 => ∃ acc, H4 Dl = some (.lst acc) ∧ acc.length < sizeLine ∧ Cd H ds f e Dl (i + 1) (upd H4 Dl (.lst (acc ++ [y])))
    refine he hf H3 e3 _ fun y H4 e4 py => ?_
    have q3 : H4 Dl = some (.lst acc) := e4 _ _ (e3 _ _ p3)
    have hl : acc.length ≤ ds.length := by
      rw [p4.len, List.length_map]
      exact Nat.le_trans (List.length_filter_le _ _) (by rw [List.length_take]; omega)
    refine ⟨acc, q3, sz_lt (by omega), p1, Ex.mut ((p2.trans e3).trans e4) p1, acc ++ [y], upd_same, ?_⟩
    rw [etake, List.filter_append, List.map_append, List.filter_cons, if_pos hf]
    exact ((p4.m (Tsm.ex (e3.trans e4))).snoc py).m (Tsm.updL q3)
  | false =>
    show Cd H ds f e Dl (i + 1) H3
    refine ⟨p1, p2.trans e3, acc, e3 _ _ p3, ?_⟩
    rw [etake, List.filter_append, List.map_append, List.filter_cons, if_neg (by rw [hf]; decide)]
    simpa using p4.m (Tsm.ex e3)
/-- what a turn asks: the target's slots, the test, the element -/
def TurnOk (g : TG) (t : TT) (te : TE) (vs : List Nat) (σ : L2.St) (f : PyData → Bool) (e : PyData → PyData) (d : PyData) (v : V) (H1 : Hp) : Prop :=
  ∃ σ2, wipe σ2 vs = wipe σ vs ∧ (∀ R : L2.St → Hp → Prop, R σ2 H1 → g v (wipe σ vs) H1 R) ∧ EvT t σ2 H1 (f d) ∧ (f d = true → EvD te σ2 H1 (e d))
theorem evn_lcL {vs : List Nat} (f : PyData → Bool) (e : PyData → PyData) (h : EvP tb σ H (pL ds)) (hz : ds.length ≤ 50000) (ht : ∀ (i : Nat) (d : PyData) (v : V) (H1 : Hp), Ex H H1 → ds[i]? = some d → Is H1 v d → TurnOk g t te vs σ f e d v H1) :
    EvN (tLc (iList K tb) g t te vs) σ H ((ds.filter f).map e) := fun H0 e0 Q q => h H0 e0 _ fun x H1 e1 ⟨a, xs, ex, h1, h2⟩ => ⟨a, ex, ⟨xs, SqL.of h1⟩, fun Dl hD =>
  lc_list (xs := xs) (Cd H1 ds f e Dl) ⟨hD, Ex.new hD, [], upd_same, by simpa using Iss.nil⟩ (fun i H' _ p => SqL.of (p.2.1 _ _ h1)) (fun i x H' hi p => by
    obtain ⟨d, hd, hx⟩ := h2.get' hi
    obtain ⟨σ2, hw, hg, hT, hE⟩ := ht i d x H' ((e0.trans e1).trans p.2.1) hd (hx.m (Tsm.ex p.2.1))
    exact hg _ ⟨hw, cd_turn p hd hz hT hE⟩) (fun H' p => by
    obtain ⟨p1, p2, acc, p3, p4⟩ := p
    rw [h2.len, List.take_length] at p4
    exact q Dl acc H' (fresh_back e1 p1) (e1.trans p2) p3 p4)⟩
theorem evn_lcT {vs : List Nat} (f : PyData → Bool) (e : PyData → PyData) (h : EvD tb σ H (.tuple ds)) (hz : ds.length ≤ 50000) (ht : ∀ (i : Nat) (d : PyData) (v : V) (H1 : Hp), Ex H H1 → ds[i]? = some d → Is H1 v d → TurnOk g t te vs σ f e d v H1) :
    EvN (tLc (iTup K tb) g t te vs) σ H ((ds.filter f).map e) := fun H0 e0 Q q => h H0 e0 _ fun x H1 e1 p => by
  obtain ⟨a, xs, ex, h1, h2⟩ := is_tup.mp p
  exact ⟨a, ex, ⟨xs, SqT.of h1⟩, fun Dl hD =>
    lc_tup (xs := xs) (Cd H1 ds f e Dl) ⟨hD, Ex.new hD, [], upd_same, by simpa using Iss.nil⟩ (fun i H' _ p => SqT.of (p.2.1 _ _ h1)) (fun i x H' hi p => by
      obtain ⟨d, hd, hx⟩ := h2.get' hi
      obtain ⟨σ2, hw, hg, hT, hE⟩ := ht i d x H' ((e0.trans e1).trans p.2.1) hd (hx.m (Tsm.ex p.2.1))
      exact hg _ ⟨hw, cd_turn p hd hz hT hE⟩) (fun H' p => by
      obtain ⟨p1, p2, acc, p3, p4⟩ := p
      rw [h2.len, List.take_length] at p4
      exact q Dl acc H' (fresh_back e1 p1) (e1.trans p2) p3 p4)⟩
def upto (n : Nat) : List PyData := (List.range n).map fun i => .int (i : Nat)
theorem upto_get {n i : Nat} (h : i < n) : (upto n)[i]? = some (.int (i : Nat)) := by
  unfold upto
  rw [List.getElem?_map, List.getElem?_range h]
  rfl
theorem upto_len (n : Nat) : (upto n).length = n := by simp [upto]
theorem evn_lcR {vs : List Nat} {ta : TA} {n : Int} (f : PyData → Bool) (e : PyData → PyData) (h : EvA ta σ H [.int n]) (h0 : 0 ≤ n) (hz : n ≤ 50000) (ht : ∀ (i : Nat) H1, Ex H H1 → (i : Int) < n → TurnOk g t te vs σ f e (.int (i : Nat)) (.int (i : Nat)) H1) :
    EvN (tLc (iRng1 ta) g t te vs) σ H (((upto n.toNat).filter f).map e) := fun H0 e0 Q q => h H0 e0 _ fun H1 e1 => ⟨n, rfl, by omega, by omega, fun Dl hD =>
  lc_range (lo := 0) (n := n.toNat) (Cd H1 (upto n.toNat) f e Dl) ⟨hD, Ex.new hD, [], upd_same, by simpa using Iss.nil⟩ (fun i H' hi p => by
    obtain ⟨σ2, hw, hg, hT, hE⟩ := ht i H' ((e0.trans e1).trans p.2.1) (by omega)
    rw [Int.zero_add]
    exact hg _ ⟨hw, cd_turn p (upto_get hi) (by rw [upto_len]; omega) hT hE⟩) (fun H' p => by
    obtain ⟨p1, p2, acc, p3, p4⟩ := p
    have et : (upto n.toNat).take n.toNat = upto n.toNat := List.take_of_length_le (by rw [upto_len]; exact Nat.le_refl _)
    rw [et] at p4
    exact q Dl acc H' (fresh_back e1 p1) (e1.trans p2) p3 p4)⟩
theorem turn_name {j : Nat} {vs : List Nat} {f : PyData → Bool} {e : PyData → PyData} {H1 : Hp} (hw : wipe ((wipe σ vs).set j (some v)) vs = wipe σ vs) (ht : EvT t ((wipe σ vs).set j (some v)) H1 (f d)) (he : f d = true → EvD te ((wipe σ vs).set j (some v)) H1 (e d)) : TurnOk (gName j) t te vs σ f e d v H1 :=
  ⟨_, hw, fun R r => r, ht, he⟩
theorem et_yes : EvT tYes σ H true := fun H1 _ Q q => q H1 (Ex.refl H1)
end
end SD
end
section
set_option Elab.async false
set_option linter.all false
set_option maxRecDepth 100000
set_option maxHeartbeats 4000000
/-! the text by places, and what the walk asks of the top -/
namespace SD
open PySem PySem.Spec PyProof.Rows L2
def top (i : Nat) : Stmt := PySem.Challenge.pw_stepdown_k22_whole_strips_do_the_same.main.body.getD i (.Pass ⟨0, 0, 0, 0⟩)
abbrev s_without_ends : Stmt := top 9
abbrev s_is_integer : Stmt := top 13
abbrev s_trimmed : Stmt := top 14
abbrev s_letter_of : Stmt := top 17
abbrev s_line_of : Stmt := top 18
abbrev s_meaning : Stmt := top 19
abbrev s_is_tile : Stmt := top 24
abbrev s_reaching : Stmt := top 26
abbrev s_rows_of_any_length : Stmt := top 27
abbrev s_next_floor : Stmt := top 28
abbrev s_tiles_of : Stmt := top 32
abbrev s_law_cell : Stmt := top 36
abbrev s_law_mixed : Stmt := top 37
abbrev s_law_digits : Stmt := top 38
abbrev s_law_tape : Stmt := top 39
abbrev s_law_trim : Stmt := top 40
abbrev s_law_configuration : Stmt := top 41
abbrev s_law_next : Stmt := top 42
abbrev s_law_letter : Stmt := top 43
abbrev s_law_line : Stmt := top 44
abbrev s_law_steps : Stmt := top 45
abbrev s_law_tiles : Stmt := top 46
abbrev s_law_floors : Stmt := top 47
abbrev s_law_cut : Stmt := top 48
abbrev s_law_others : Stmt := top 49
abbrev s_law : Stmt := top 50
abbrev s_Tape_init : Stmt := inClass (top 15) 0
abbrev s_Tape_is_row : Stmt := inClass (top 15) 1
abbrev s_Tape_row : Stmt := inClass (top 15) 3
abbrev s_Tape_stopped : Stmt := inClass (top 15) 7
abbrev s_Tiles_init : Stmt := inClass (top 25) 0
abbrev s_Tiles_fitting : Stmt := inClass (top 25) 1
abbrev s_Strip_init : Stmt := inClass (top 30) 0
abbrev s_Strip_step : Stmt := inClass (top 30) 2
abbrev s_Strip_rows : Stmt := inClass (top 30) 3
abbrev s_Strip_stopped : Stmt := inClass (top 30) 4
abbrev s_Strip_run : Stmt := inClass (top 30) 5
abbrev s_TileStair_init : Stmt := inClass (top 33) 0
abbrev s_TileStair_down : Stmt := inClass (top 33) 1
abbrev s_TileStair_up : Stmt := inClass (top 33) 2
abbrev s_TileStair_pace : Stmt := inClass (top 33) 3
abbrev s_TileStair_ending : Stmt := inClass (top 33) 4
structure Txt (K : PySem.W.Frag) (mg : Str → Option Value) where
  fd_without_ends : FuncData
  F_without_ends : FunD K "without_ends" "without_ends" (defArgs s_without_ends) (defBody s_without_ends) (defScope s_without_ends) [] [] (He.fAd K ("without_ends", none)) fd_without_ends
  fd_is_integer : FuncData
  F_is_integer : FunD K "is_integer" "is_integer" (defArgs s_is_integer) (defBody s_is_integer) (defScope s_is_integer) [] [] (He.fAd K ("is_integer", none)) fd_is_integer
  fd_trimmed : FuncData
  F_trimmed : FunD K "trimmed" "trimmed" (defArgs s_trimmed) (defBody s_trimmed) (defScope s_trimmed) [] [] (He.fAd K ("trimmed", none)) fd_trimmed
  fd_letter_of : FuncData
  F_letter_of : FunD K "letter_of" "letter_of" (defArgs s_letter_of) (defBody s_letter_of) (defScope s_letter_of) [] [] (He.fAd K ("letter_of", none)) fd_letter_of
  fd_line_of : FuncData
  F_line_of : FunD K "line_of" "line_of" (defArgs s_line_of) (defBody s_line_of) (defScope s_line_of) [] [] (He.fAd K ("line_of", none)) fd_line_of
  fd_meaning : FuncData
  F_meaning : FunD K "meaning" "meaning" (defArgs s_meaning) (defBody s_meaning) (defScope s_meaning) [] [] (He.fAd K ("meaning", none)) fd_meaning
  fd_is_tile : FuncData
  F_is_tile : FunD K "_is_tile" "_is_tile" (defArgs s_is_tile) (defBody s_is_tile) (defScope s_is_tile) [] [] (He.fAd K ("_is_tile", none)) fd_is_tile
  fd_reaching : FuncData
  F_reaching : FunD K "_reaching" "_reaching" (defArgs s_reaching) (defBody s_reaching) (defScope s_reaching) [] [] (He.fAd K ("_reaching", none)) fd_reaching
  fd_rows_of_any_length : FuncData
  F_rows_of_any_length : FunD K "rows_of_any_length" "rows_of_any_length" (defArgs s_rows_of_any_length) (defBody s_rows_of_any_length) (defScope s_rows_of_any_length) [] [] (He.fAd K ("rows_of_any_length", none)) fd_rows_of_any_length
  fd_next_floor : FuncData
  F_next_floor : FunD K "next_floor" "next_floor" (defArgs s_next_floor) (defBody s_next_floor) (defScope s_next_floor) [] [] (He.fAd K ("next_floor", none)) fd_next_floor
  fd_tiles_of : FuncData
  F_tiles_of : FunD K "tiles_of" "tiles_of" (defArgs s_tiles_of) (defBody s_tiles_of) (defScope s_tiles_of) [] [] (He.fAd K ("tiles_of", none)) fd_tiles_of
  fd_law_cell : FuncData
  F_law_cell : FunD K "_law_cell" "_law_cell" (defArgs s_law_cell) (defBody s_law_cell) (defScope s_law_cell) [] [] (He.fAd K ("_law_cell", none)) fd_law_cell
  fd_law_mixed : FuncData
  F_law_mixed : FunD K "_law_mixed" "_law_mixed" (defArgs s_law_mixed) (defBody s_law_mixed) (defScope s_law_mixed) [] [] (He.fAd K ("_law_mixed", none)) fd_law_mixed
  fd_law_digits : FuncData
  F_law_digits : FunD K "_law_digits" "_law_digits" (defArgs s_law_digits) (defBody s_law_digits) (defScope s_law_digits) [] [] (He.fAd K ("_law_digits", none)) fd_law_digits
  fd_law_tape : FuncData
  F_law_tape : FunD K "_law_tape" "_law_tape" (defArgs s_law_tape) (defBody s_law_tape) (defScope s_law_tape) [] [] (He.fAd K ("_law_tape", none)) fd_law_tape
  fd_law_trim : FuncData
  F_law_trim : FunD K "_law_trim" "_law_trim" (defArgs s_law_trim) (defBody s_law_trim) (defScope s_law_trim) [] [] (He.fAd K ("_law_trim", none)) fd_law_trim
  fd_law_configuration : FuncData
  F_law_configuration : FunD K "_law_configuration" "_law_configuration" (defArgs s_law_configuration) (defBody s_law_configuration) (defScope s_law_configuration) [] [] (He.fAd K ("_law_configuration", none)) fd_law_configuration
  fd_law_next : FuncData
  F_law_next : FunD K "_law_next" "_law_next" (defArgs s_law_next) (defBody s_law_next) (defScope s_law_next) [] [] (He.fAd K ("_law_next", none)) fd_law_next
  fd_law_letter : FuncData
  F_law_letter : FunD K "_law_letter" "_law_letter" (defArgs s_law_letter) (defBody s_law_letter) (defScope s_law_letter) [] [] (He.fAd K ("_law_letter", none)) fd_law_letter
  fd_law_line : FuncData
  F_law_line : FunD K "_law_line" "_law_line" (defArgs s_law_line) (defBody s_law_line) (defScope s_law_line) [] [] (He.fAd K ("_law_line", none)) fd_law_line
  fd_law_steps : FuncData
  F_law_steps : FunD K "_law_steps" "_law_steps" (defArgs s_law_steps) (defBody s_law_steps) (defScope s_law_steps) [] [] (He.fAd K ("_law_steps", none)) fd_law_steps
  fd_law_tiles : FuncData
  F_law_tiles : FunD K "_law_tiles" "_law_tiles" (defArgs s_law_tiles) (defBody s_law_tiles) (defScope s_law_tiles) [] [] (He.fAd K ("_law_tiles", none)) fd_law_tiles
  fd_law_floors : FuncData
  F_law_floors : FunD K "_law_floors" "_law_floors" (defArgs s_law_floors) (defBody s_law_floors) (defScope s_law_floors) [] [] (He.fAd K ("_law_floors", none)) fd_law_floors
  fd_law_cut : FuncData
  F_law_cut : FunD K "_law_cut" "_law_cut" (defArgs s_law_cut) (defBody s_law_cut) (defScope s_law_cut) [] [] (He.fAd K ("_law_cut", none)) fd_law_cut
  fd_law_others : FuncData
  F_law_others : FunD K "_law_others" "_law_others" (defArgs s_law_others) (defBody s_law_others) (defScope s_law_others) [] [] (He.fAd K ("_law_others", none)) fd_law_others
  fd_law : FuncData
  F_law : FunD K "law" "law" (defArgs s_law) (defBody s_law) (defScope s_law) [] [] (He.fAd K ("law", none)) fd_law
  fd_Tape_init : FuncData
  F_Tape_init : FunD K "__init__" "Tape.__init__" (defArgs s_Tape_init) (defBody s_Tape_init) (defScope s_Tape_init) [] [] (He.fAd K ("Tape", some "__init__")) fd_Tape_init
  fd_Tape_is_row : FuncData
  F_Tape_is_row : FunD K "_is_row" "Tape._is_row" (defArgs s_Tape_is_row) (defBody s_Tape_is_row) (defScope s_Tape_is_row) [] [] (He.fAd K ("Tape", some "_is_row")) fd_Tape_is_row
  fd_Tape_row : FuncData
  F_Tape_row : FunD K "row" "Tape.row" (defArgs s_Tape_row) (defBody s_Tape_row) (defScope s_Tape_row) [] [] (He.fAd K ("Tape", some "row")) fd_Tape_row
  fd_Tape_stopped : FuncData
  F_Tape_stopped : FunD K "stopped" "Tape.stopped" (defArgs s_Tape_stopped) (defBody s_Tape_stopped) (defScope s_Tape_stopped) [] [] (He.fAd K ("Tape", some "stopped")) fd_Tape_stopped
  fd_Tiles_init : FuncData
  F_Tiles_init : FunD K "__init__" "Tiles.__init__" (defArgs s_Tiles_init) (defBody s_Tiles_init) (defScope s_Tiles_init) [] [] (He.fAd K ("Tiles", some "__init__")) fd_Tiles_init
  fd_Tiles_fitting : FuncData
  F_Tiles_fitting : FunD K "fitting" "Tiles.fitting" (defArgs s_Tiles_fitting) (defBody s_Tiles_fitting) (defScope s_Tiles_fitting) [] [] (He.fAd K ("Tiles", some "fitting")) fd_Tiles_fitting
  fd_Strip_init : FuncData
  F_Strip_init : FunD K "__init__" "Strip.__init__" (defArgs s_Strip_init) (defBody s_Strip_init) (defScope s_Strip_init) [] [] (He.fAd K ("Strip", some "__init__")) fd_Strip_init
  fd_Strip_step : FuncData
  F_Strip_step : FunD K "step" "Strip.step" (defArgs s_Strip_step) (defBody s_Strip_step) (defScope s_Strip_step) [] [] (He.fAd K ("Strip", some "step")) fd_Strip_step
  fd_Strip_rows : FuncData
  F_Strip_rows : FunD K "_rows" "Strip._rows" (defArgs s_Strip_rows) (defBody s_Strip_rows) (defScope s_Strip_rows) [] [] (He.fAd K ("Strip", some "_rows")) fd_Strip_rows
  fd_Strip_stopped : FuncData
  F_Strip_stopped : FunD K "stopped" "Strip.stopped" (defArgs s_Strip_stopped) (defBody s_Strip_stopped) (defScope s_Strip_stopped) [] [] (He.fAd K ("Strip", some "stopped")) fd_Strip_stopped
  fd_Strip_run : FuncData
  F_Strip_run : FunD K "run" "Strip.run" (defArgs s_Strip_run) (defBody s_Strip_run) (defScope s_Strip_run) [] [] (He.fAd K ("Strip", some "run")) fd_Strip_run
  fd_TileStair_init : FuncData
  F_TileStair_init : FunD K "__init__" "TileStair.__init__" (defArgs s_TileStair_init) (defBody s_TileStair_init) (defScope s_TileStair_init) [] [] (He.fAd K ("TileStair", some "__init__")) fd_TileStair_init
  fd_TileStair_down : FuncData
  F_TileStair_down : FunD K "down" "TileStair.down" (defArgs s_TileStair_down) (defBody s_TileStair_down) (defScope s_TileStair_down) [] [] (He.fAd K ("TileStair", some "down")) fd_TileStair_down
  fd_TileStair_up : FuncData
  F_TileStair_up : FunD K "up" "TileStair.up" (defArgs s_TileStair_up) (defBody s_TileStair_up) (defScope s_TileStair_up) [] [] (He.fAd K ("TileStair", some "up")) fd_TileStair_up
  fd_TileStair_pace : FuncData
  F_TileStair_pace : FunD K "pace" "TileStair.pace" (defArgs s_TileStair_pace) (defBody s_TileStair_pace) (defScope s_TileStair_pace) [] [] (He.fAd K ("TileStair", some "pace")) fd_TileStair_pace
  fd_TileStair_ending : FuncData
  F_TileStair_ending : FunD K "ending" "TileStair.ending" (defArgs s_TileStair_ending) (defBody s_TileStair_ending) (defScope s_TileStair_ending) [] [] (He.fAd K ("TileStair", some "ending")) fd_TileStair_ending
  g_without_ends : mg "without_ends" = some (.ref (He.ga K "without_ends"))
  g_is_integer : mg "is_integer" = some (.ref (He.ga K "is_integer"))
  g_trimmed : mg "trimmed" = some (.ref (He.ga K "trimmed"))
  g_letter_of : mg "letter_of" = some (.ref (He.ga K "letter_of"))
  g_line_of : mg "line_of" = some (.ref (He.ga K "line_of"))
  g_meaning : mg "meaning" = some (.ref (He.ga K "meaning"))
  g_is_tile : mg "_is_tile" = some (.ref (He.ga K "_is_tile"))
  g_reaching : mg "_reaching" = some (.ref (He.ga K "_reaching"))
  g_rows_of_any_length : mg "rows_of_any_length" = some (.ref (He.ga K "rows_of_any_length"))
  g_next_floor : mg "next_floor" = some (.ref (He.ga K "next_floor"))
  g_tiles_of : mg "tiles_of" = some (.ref (He.ga K "tiles_of"))
  g_law_cell : mg "_law_cell" = some (.ref (He.ga K "_law_cell"))
  g_law_mixed : mg "_law_mixed" = some (.ref (He.ga K "_law_mixed"))
  g_law_digits : mg "_law_digits" = some (.ref (He.ga K "_law_digits"))
  g_law_tape : mg "_law_tape" = some (.ref (He.ga K "_law_tape"))
  g_law_trim : mg "_law_trim" = some (.ref (He.ga K "_law_trim"))
  g_law_configuration : mg "_law_configuration" = some (.ref (He.ga K "_law_configuration"))
  g_law_next : mg "_law_next" = some (.ref (He.ga K "_law_next"))
  g_law_letter : mg "_law_letter" = some (.ref (He.ga K "_law_letter"))
  g_law_line : mg "_law_line" = some (.ref (He.ga K "_law_line"))
  g_law_steps : mg "_law_steps" = some (.ref (He.ga K "_law_steps"))
  g_law_tiles : mg "_law_tiles" = some (.ref (He.ga K "_law_tiles"))
  g_law_floors : mg "_law_floors" = some (.ref (He.ga K "_law_floors"))
  g_law_cut : mg "_law_cut" = some (.ref (He.ga K "_law_cut"))
  g_law_others : mg "_law_others" = some (.ref (He.ga K "_law_others"))
  g_law : mg "law" = some (.ref (He.ga K "law"))
  g_Tape : mg "Tape" = some (.ref (He.ga K "Tape"))
  c_Tape : Cls K (He.ga K "Tape")
  k_Tape : Mk K (He.ga K "Tape") (He.fAd K ("Tape", some "__init__"))
  n_Tape_marks : NoAttr K (He.ga K "Tape") "marks"
  n_Tape_states : NoAttr K (He.ga K "Tape") "states"
  n_Tape_rows : NoAttr K (He.ga K "Tape") "_rows"
  g_Tiles : mg "Tiles" = some (.ref (He.ga K "Tiles"))
  c_Tiles : Cls K (He.ga K "Tiles")
  k_Tiles : Mk K (He.ga K "Tiles") (He.fAd K ("Tiles", some "__init__"))
  n_Tiles_tiles : NoAttr K (He.ga K "Tiles") "tiles"
  n_Tiles_by_sides : NoAttr K (He.ga K "Tiles") "_by_sides"
  g_Strip : mg "Strip" = some (.ref (He.ga K "Strip"))
  c_Strip : Cls K (He.ga K "Strip")
  k_Strip : Mk K (He.ga K "Strip") (He.fAd K ("Strip", some "__init__"))
  n_Strip_tiles : NoAttr K (He.ga K "Strip") "tiles"
  g_TileStair : mg "TileStair" = some (.ref (He.ga K "TileStair"))
  c_TileStair : Cls K (He.ga K "TileStair")
  k_TileStair : Mk K (He.ga K "TileStair") (He.fAd K ("TileStair", some "__init__"))
  n_TileStair_upper : NoAttr K (He.ga K "TileStair") "upper"
  n_TileStair_lower : NoAttr K (He.ga K "TileStair") "lower"
  m_Tape_is_row : Meth K (He.ga K "Tape") "_is_row" (He.fAd K ("Tape", some "_is_row"))
  m_Tape_row : Meth K (He.ga K "Tape") "row" (He.fAd K ("Tape", some "row"))
  m_Tape_stopped : Meth K (He.ga K "Tape") "stopped" (He.fAd K ("Tape", some "stopped"))
  m_Tiles_fitting : Meth K (He.ga K "Tiles") "fitting" (He.fAd K ("Tiles", some "fitting"))
  m_Strip_step : Meth K (He.ga K "Strip") "step" (He.fAd K ("Strip", some "step"))
  m_Strip_rows : Meth K (He.ga K "Strip") "_rows" (He.fAd K ("Strip", some "_rows"))
  m_Strip_stopped : Meth K (He.ga K "Strip") "stopped" (He.fAd K ("Strip", some "stopped"))
  m_Strip_run : Meth K (He.ga K "Strip") "run" (He.fAd K ("Strip", some "run"))
  m_TileStair_down : Meth K (He.ga K "TileStair") "down" (He.fAd K ("TileStair", some "down"))
  m_TileStair_up : Meth K (He.ga K "TileStair") "up" (He.fAd K ("TileStair", some "up"))
  m_TileStair_pace : Meth K (He.ga K "TileStair") "pace" (He.fAd K ("TileStair", some "pace"))
  m_TileStair_ending : Meth K (He.ga K "TileStair") "ending" (He.fAd K ("TileStair", some "ending"))
  f_isinstance : mg "isinstance" = none
  f_int : mg "int" = none
  f_bool : mg "bool" = none
  f_tuple : mg "tuple" = none
  f_len : mg "len" = none
  f_list : mg "list" = none
  f_range : mg "range" = none
  f_all : mg "all" = none
  f_min : mg "min" = none
  f_max : mg "max" = none
  f_sorted : mg "sorted" = none
  f_reversed : mg "reversed" = none
  f_enumerate : mg "enumerate" = none
  t_MOST_MARKS : Tok
  i_MOST_MARKS : mg "MOST_MARKS" = some (.int 16 t_MOST_MARKS)
  t_MOST_STATES : Tok
  i_MOST_STATES : mg "MOST_STATES" = some (.int 4000 t_MOST_STATES)
  t_MOST_TILES : Tok
  i_MOST_TILES : mg "MOST_TILES" = some (.int 1000 t_MOST_TILES)
  t_MOST_COLOUR : Tok
  i_MOST_COLOUR : mg "MOST_COLOUR" = some (.int 999 t_MOST_COLOUR)
  t_MOST_ROWS : Tok
  i_MOST_ROWS : mg "MOST_ROWS" = some (.int 2000 t_MOST_ROWS)
  g_TooLarge : mg "TooLarge" = some (.ref (He.ga K "TooLarge"))
end SD
end
section
set_option Elab.async false
set_option linter.all false
set_option maxRecDepth 100000
set_option maxHeartbeats 4000000
/-! what each def keeps -/
namespace SD
open PySem L2 Evl SDR
/-! ### data of the program -/
def dT (t : Tl) : PyData := dI [t.e, t.n, t.w, t.s]
def dTs (r : List Tl) : PyData := .tuple (r.map dT)
def dRow : Row → PyData
  | none => .none
  | some (w, v, q) => dI [w, v, q]
def dCf (c : Cf) : PyData := .tuple [.int c.q, dI c.l, .int c.a, dI c.r]
theorem all_ints : ∀ ns : List Int, PyData.canLayAll0 (ns.map .int) = true ∧ PyData.depthAll (ns.map .int) = 0
  | [] => ⟨by simp [PyData.canLayAll0], by simp [PyData.depthAll]⟩
  | n :: ns => by
    obtain ⟨h1, h2⟩ := all_ints ns
    rw [List.map_cons]
    exact ⟨by simp [PyData.canLayAll0, PyData.canLay0, h1], by simp [PyData.depthAll, PyData.depth, h2]⟩
theorem sh_dI (ns : List Int) : SeqAt.shaped (dI ns) = true := by
  obtain ⟨h1, h2⟩ := all_ints ns
  simp [SeqAt.shaped, PyData.canLay0, PyData.depth, h1, h2]
theorem dep_dI (ns : List Int) : (dI ns).depth = 1 := by
  obtain ⟨h1, h2⟩ := all_ints ns
  simp [PyData.depth, h2]
theorem sh_dCf (c : Cf) : SeqAt.shaped (dCf c) = true := by
  obtain ⟨h1, h2⟩ := all_ints c.l
  obtain ⟨h3, h4⟩ := all_ints c.r
  simp [dCf, SeqAt.shaped, PyData.canLay0, PyData.canLayAll0, PyData.depth, PyData.depthAll, h1, h2, h3, h4]
theorem all_tls : ∀ ts : List Tl, PyData.canLayAll0 (ts.map dT) = true ∧ PyData.depthAll (ts.map dT) ≤ 1
  | [] => ⟨by simp [PyData.canLayAll0], by simp [PyData.depthAll]⟩
  | t :: ts => by
    obtain ⟨h1, h2⟩ := all_tls ts
    obtain ⟨h3, h4⟩ := all_ints [t.e, t.n, t.w, t.s]
    rw [List.map_cons]
    refine ⟨by simp only [PyData.canLayAll0, h1, dT, PyData.canLay0, h3, Bool.and_self], ?_⟩
    simp only [PyData.depthAll, dT, PyData.depth, h4]
    omega
theorem sh_dTs (ts : List Tl) : SeqAt.shaped (dTs ts) = true := by
  obtain ⟨h1, h2⟩ := all_tls ts
  unfold dTs SeqAt.shaped
  have e1 : (PyData.tuple (ts.map dT)).canLay0 = true := by simp only [PyData.canLay0, h1]
  have e2 : (PyData.tuple (ts.map dT)).depth = PyData.depthAll (ts.map dT) + 1 := by simp only [PyData.depth]
  rw [e1, e2, Bool.true_and]
  exact decide_eq_true (by omega)
/-! ### objects -/
section
variable (K : PySem.W.Frag)
abbrev cTape : Addr := He.ga K "Tape"
abbrev cTiles : Addr := He.ga K "Tiles"
abbrev cStrip : Addr := He.ga K "Strip"
abbrev cStair : Addr := He.ga K "TileStair"
end
theorem nm1 : ¬ (("marks" : Str) = "states") := by decide +kernel
theorem nm2 : ¬ (("marks" : Str) = "_rows") := by decide +kernel
theorem nm3 : ¬ (("states" : Str) = "_rows") := by decide +kernel
theorem nm4 : ¬ (("tiles" : Str) = "_by_sides") := by decide +kernel
theorem nm5 : ¬ (("upper" : Str) = "lower") := by decide +kernel
def f1 (n : Str) (v : V) : List (Str × V) := putF n v []
theorem f1_at (n : Str) (v : V) : (f1 n v).lookup n = some v := by
  unfold f1
  rw [lookup_putF, if_pos rfl]
theorem f1_no {n m : Str} (v : V) (h : ¬ m = n) : (f1 n v).lookup m = none := by
  unfold f1
  rw [lookup_putF, if_neg h]
  rfl
def f2 (n1 : Str) (v1 : V) (n2 : Str) (v2 : V) : List (Str × V) := putF n2 v2 (f1 n1 v1)
theorem f2_1 {n1 n2 : Str} (v1 v2 : V) (h : ¬ n1 = n2) : (f2 n1 v1 n2 v2).lookup n1 = some v1 := by
  unfold f2
  rw [lookup_putF, if_neg h, f1_at]
theorem f2_2 (n1 n2 : Str) (v1 v2 : V) : (f2 n1 v1 n2 v2).lookup n2 = some v2 := by
  unfold f2
  rw [lookup_putF, if_pos rfl]
theorem f2_no {n1 n2 m : Str} (v1 v2 : V) (h1 : ¬ m = n1) (h2 : ¬ m = n2) : (f2 n1 v1 n2 v2).lookup m = none := by
  unfold f2
  rw [lookup_putF, if_neg h2, f1_no v1 h1]
def tapeF (m s : Int) (l : Addr) : List (Str × V) := putF "_rows" (.ref l) (f2 "marks" (.int m) "states" (.int s))
theorem tapeF_marks (m s : Int) (l : Addr) : (tapeF m s l).lookup ("marks" : Str) = some (.int m) := by
  unfold tapeF
  rw [lookup_putF, if_neg nm2, f2_1 _ _ nm1]
theorem tapeF_states (m s : Int) (l : Addr) : (tapeF m s l).lookup ("states" : Str) = some (.int s) := by
  unfold tapeF
  rw [lookup_putF, if_neg nm3, f2_2]
theorem tapeF_rows (m s : Int) (l : Addr) : (tapeF m s l).lookup ("_rows" : Str) = some (.ref l) := by
  unfold tapeF
  rw [lookup_putF, if_pos rfl]
theorem tapeF_no {n : Str} (m s : Int) (l : Addr) (h1 : ¬ n = "marks") (h2 : ¬ n = "states") (h3 : ¬ n = "_rows") : (tapeF m s l).lookup n = none := by
  unfold tapeF
  rw [lookup_putF, if_neg h3, f2_no _ _ h1 h2]
theorem putF_len (n : Str) (v : V) : ∀ fs : List (Str × V), (putF n v fs).length ≤ fs.length + 1
  | [] => Nat.le_refl _
  | (m, u) :: r => by
    unfold putF
    split
    · simp
    · have := putF_len n v r
      simp only [List.length_cons]
      omega
theorem f1_len (n : Str) (v : V) : (f1 n v).length ≤ 1 := putF_len n v []
theorem f2_len (n1 n2 : Str) (v1 v2 : V) : (f2 n1 v1 n2 v2).length ≤ 2 := by
  have h1 := putF_len n2 v2 (f1 n1 v1)
  have h2 := f1_len n1 v1
  unfold f2
  omega

section
variable (K : PySem.W.Frag)
/-- a machine -/
def pTape (M : Mach) : Pr := fun v H => ∃ p dx l xs, v = .ref p ∧ H p = some (.ins (cTape K) dx (tapeF M.m M.s l)) ∧ H l = some (.lst xs) ∧ Iss H xs (M.rows.map dRow)
/-- its marks and states alone -/
def pMS (m s : Int) : Pr := fun v H => ∃ p dx fs, v = .ref p ∧ H p = some (.ins (cTape K) dx fs) ∧ fs.lookup ("marks" : Str) = some (.int m) ∧ fs.lookup ("states" : Str) = some (.int s)
def fit (ts : List Tl) (w s : Int) : List Tl := ts.filter fun t => decide (t.w = w ∧ t.s = s)
def By (H : Hp) (kvs : List (List Key × V)) (ts : List Tl) : Prop := ∀ w s : Int, (valV kvs [Sum.inl w, Sum.inl s] = none ∧ fit ts w s = []) ∨ ∃ v, valV kvs [Sum.inl w, Sum.inl s] = some v ∧ pL ((fit ts w s).map dT) v H
/-- a set of tiles -/
def pTiles (ts : List Tl) : Pr := fun v H => ∃ p dx t xs d kvs, v = .ref p ∧ H p = some (.ins (cTiles K) dx (f2 "tiles" (.ref t) "_by_sides" (.ref d))) ∧ H t = some (.tup xs) ∧ Iss H xs (ts.map dT) ∧ H d = some (.dT kvs) ∧ By H kvs ts
def pStrip (ts : List Tl) : Pr := fun v H => ∃ p dx u, v = .ref p ∧ H p = some (.ins (cStrip K) dx (f1 "tiles" u)) ∧ pTiles K ts u H
def pStair (M : Mach) (ts : List Tl) : Pr := fun v H => ∃ p dx u z, v = .ref p ∧ H p = some (.ins (cStair K) dx (f2 "upper" u "lower" z)) ∧ pTape K M u H ∧ pStrip K ts z H
instance {M : Mach} : Mo (pTape K M) := ⟨fun v H H' e ⟨p, dx, l, xs, h1, h2, h3, h4⟩ => ⟨p, dx, l, xs, h1, e _ _ h2, e _ _ h3, h4.m (Tsm.ex e)⟩⟩
instance {m s : Int} : Mo (pMS K m s) := ⟨fun v H H' e ⟨p, dx, fs, h1, h2, h3⟩ => ⟨p, dx, fs, h1, e _ _ h2, h3⟩⟩
instance {ts : List Tl} : Mo (pTiles K ts) := ⟨fun v H H' e ⟨p, dx, t, xs, d, kvs, h1, h2, h3, h4, h5, h6⟩ => ⟨p, dx, t, xs, d, kvs, h1, e _ _ h2, e _ _ h3, h4.m (Tsm.ex e), e _ _ h5, fun w s => (h6 w s).elim .inl fun ⟨u, q1, q2⟩ => .inr ⟨u, q1, Mo.mo _ _ _ e q2⟩⟩⟩
instance {ts : List Tl} : Mo (pStrip K ts) := ⟨fun v H H' e ⟨p, dx, u, h1, h2, h3⟩ => ⟨p, dx, u, h1, e _ _ h2, Mo.mo _ _ _ e h3⟩⟩
instance {M : Mach} {ts : List Tl} : Mo (pStair K M ts) := ⟨fun v H H' e ⟨p, dx, u, z, h1, h2, h3, h4⟩ => ⟨p, dx, u, z, h1, e _ _ h2, Mo.mo _ _ _ e h3, Mo.mo _ _ _ e h4⟩⟩
def pAny : Pr := fun _ _ => True
instance : Mo pAny := ⟨fun _ _ _ _ _ => trivial⟩
def pAI : Pr := fun v _ => ∃ z : Int, v = .int z
instance : Mo pAI := ⟨fun _ _ _ _ h => h⟩
/-- some value with one of these predicates -/
def pEx {α : Type} (c : α → Prop) (P : α → Pr) : Pr := fun v H => ∃ a, c a ∧ P a v H
instance {α : Type} {c : α → Prop} {P : α → Pr} [m : ∀ a, Mo (P a)] : Mo (pEx c P) := ⟨fun v H H' e ⟨a, h1, h2⟩ => ⟨a, h1, (m a).mo v H H' e h2⟩⟩
/-- a list or a tuple of ints -/
def pS (ns : List Int) : Pr := fun v H => pL (ns.map .int) v H ∨ Is H v (dI ns)
instance {ns : List Int} : Mo (pS ns) := ⟨fun v H H' e h => h.elim (fun h => .inl (Mo.mo _ _ _ e h)) fun h => .inr (h.m (Tsm.ex e))⟩
/-- the script -/
def pScr (ns : List Int) : Pr := fun v H => ∃ a, v = .ref a ∧ SqL K H a (ns.map V.int)
instance {ns : List Int} : Mo (pScr K ns) := ⟨fun v H H' e ⟨a, h1, h2⟩ => ⟨a, h1, ex_l e h2⟩⟩
/-- what is reached from the right: one dict a place -/
def pGood (ts : List Tl) (f : List Int) : Pr := fun v H => ∃ l xs, v = .ref l ∧ H l = some (.lst xs) ∧ xs.length = f.length + 1 ∧ ∀ i, i ≤ f.length → ∃ d kvs, xs[i]? = some (.ref d) ∧ H d = some (.dK kvs) ∧ ∀ w : Int, (valV kvs (Sum.inl w)).isSome = good ts (f.drop i) w
instance {ts : List Tl} {f : List Int} : Mo (pGood ts f) := ⟨fun v H H' e ⟨l, xs, h1, h2, h3, h4⟩ => ⟨l, xs, h1, e _ _ h2, h3, fun i hi => let ⟨d, kvs, q1, q2, q3⟩ := h4 i hi; ⟨d, kvs, q1, e _ _ q2, q3⟩⟩⟩

/-! ### the promises -/
def sp_without_ends : Sp := spP (ι := List Int) (fun ns => ns.length ≤ 1000) (fun ns => [pD (dI ns)]) fun ns => pD (dI (woe ns))
def sp_is_integer : Sp := spP (ι := Int × Int × Int) (fun _ => True) (fun i => [pI i.1, pI i.2.1, pI i.2.2]) fun i => pB (decide (i.2.1 ≤ i.1) && decide (i.1 ≤ i.2.2))
def sp_trimmed : Sp := spP (ι := List Int) (fun ns => ns.length ≤ 1000) (fun ns => [pD (dI ns)]) fun ns => pD (dI (trim ns))
def sp_Tape_init : Sp := spI (cTape K) (ι := Mach) (fun M => M.Ok) (fun M => [pI M.m, pI M.s, pL (M.rows.map dRow)]) fun M => pTape K M
def sp_Tape_is_row : Sp := spP (ι := Int × Int × Int × Int × Int) (fun i => rowOk i.1 i.2.1 (some i.2.2)) (fun i => [pMS K i.1 i.2.1, pD (dRow (some i.2.2))]) fun _ => pB true
def sp_Tape_row : Sp := spP (ι := Mach × Int × Int) (fun i => i.1.Ok ∧ 0 ≤ i.2.1 ∧ i.2.1 < i.1.s ∧ 0 ≤ i.2.2 ∧ i.2.2 < i.1.m) (fun i => [pTape K i.1, pI i.2.1, pI i.2.2]) fun i => pD (dRow (i.1.row i.2.1 i.2.2))
def sp_Tape_stopped : Sp := spP (ι := Mach × Cf) (fun i => i.1.Ok ∧ i.2.Ok i.1) (fun i => [pTape K i.1, pD (dCf i.2)]) fun i => pB (i.1.row i.2.q i.2.a).isNone
def sp_letter_of : Sp := spP (ι := Int × Int × Int) (fun i => 0 ≤ i.1 ∧ i.1 ≤ 100) (fun i => [pI i.1, pI i.2.1, pI i.2.2]) fun i => pI (i.1 * (i.2.2 + 1) + i.2.1)
def sp_line_of : Sp := spP (ι := Mach × Cf) (fun i => i.1.Ok ∧ i.2.Ok i.1 ∧ i.2.l.length + i.2.r.length ≤ 400) (fun i => [pI i.1.m, pD (dCf i.2)]) fun i => pD (dI (i.1.line i.2))
def sp_meaning : Sp := spP (ι := Mach × Cf) (fun i => i.1.Ok ∧ i.2.Ok i.1 ∧ i.2.l.length + i.2.r.length ≤ 400) (fun i => [pTape K i.1, pD (dI (i.1.line i.2))]) fun i => pD (dCf i.2)
def tlOk (t : Tl) : Prop := (0 ≤ t.e ∧ t.e ≤ 999) ∧ (0 ≤ t.n ∧ t.n ≤ 999) ∧ (0 ≤ t.w ∧ t.w ≤ 999) ∧ 0 ≤ t.s ∧ t.s ≤ 999
def sp_is_tile : Sp := spP (ι := Tl) tlOk (fun t => [pD (dT t)]) fun _ => pB true
def sp_Tiles_init : Sp := spI (cTiles K) (ι := List Tl) (fun ts => ts.Nodup ∧ ts.length ≤ 1000 ∧ ∀ t ∈ ts, tlOk t) (fun ts => [pL (ts.map dT)]) fun ts => pEx (fun ts' => ts'.Perm ts) fun ts' => pTiles K ts'
def sp_Tiles_fitting : Sp := spP (ι := List Tl × Int × Int) (fun _ => True) (fun i => [pTiles K i.1, pI i.2.1, pI i.2.2]) fun i => pL ((fit i.1 i.2.1 i.2.2).map dT)
def sp_reaching : Sp := spP (ι := List Tl × List Int) (fun i => i.1.length ≤ 1000 ∧ i.2.length ≤ 1000) (fun i => [pTiles K i.1, pD (dI i.2), pI 0]) fun i => pGood i.1 i.2
def sp_rows_of_any_length : Sp := spP (ι := List Tl × List Int) (fun i => Apart i.1 ∧ i.1.length ≤ 1000 ∧ i.2.length ≤ 1000 ∧ i.2 ≠ []) (fun i => [pTiles K i.1, pD (dI i.2), pI 0, pI 0]) fun i => pL ((rowsF i.1 i.2 0).map dTs)
def sp_next_floor : Sp := spP (ι := List Tl) (fun r => r.length ≤ 1000) (fun r => [pD (dTs r)]) fun r => pD (dI (r.map (·.n)))
def sp_Strip_init : Sp := spI (cStrip K) (ι := List Tl) (fun ts => (⟨0, 0, 0, 0⟩ : Tl) ∈ ts) (fun ts => [pTiles K ts]) fun ts => pStrip K ts
def stepD (ts : List Tl) (line : List Int) : PyData := match stepO ts line with
  | none => .none
  | some l => dI l
def stripOk (i : List Tl × List Int) : Prop := Apart i.1 ∧ i.1.length ≤ 1000 ∧ i.2.length ≤ 900
def sp_Strip_step : Sp := spP (ι := List Tl × List Int) stripOk (fun i => [pStrip K i.1, pD (dI i.2)]) fun i => pD (stepD i.1 i.2)
def sp_Strip_rows : Sp := spP (ι := List Tl × List Int) (fun i => Apart i.1 ∧ i.1.length ≤ 1000 ∧ i.2.length ≤ 1000 ∧ i.2 ≠ []) (fun i => [pStrip K i.1, pD (dI i.2)]) fun i => pL ((rowsF i.1 i.2 0).map dTs)
def sp_Strip_stopped : Sp := spP (ι := List Tl × List Int) stripOk (fun i => [pStrip K i.1, pD (dI i.2)]) fun i => pB (stepO i.1 i.2).isNone
def sp_Strip_run : Sp := spP (ι := List Tl × List Int × Nat) (fun i => Apart i.1 ∧ i.1.length ≤ 1000 ∧ i.2.1.length + 2 * i.2.2 ≤ 900) (fun i => [pStrip K i.1, pD (dI i.2.1), pI (i.2.2 : Int)])
  fun i => pD (.tuple [dI (runO i.1 i.2.2 i.2.1).1, .int ((runO i.1 i.2.2 i.2.1).2 : Int)])
def sp_tiles_of : Sp := spP (ι := Mach) (fun M => M.Ok) (fun M => [pTape K M]) fun M => pL (M.tiles.map dT)
def sp_TileStair_init : Sp := spI (cStair K) (ι := Mach) (fun M => M.Ok) (fun M => [pTape K M]) fun M => pEx (fun ts => ts.Perm M.tiles) fun ts => pStair K M ts
def stairI : Type := Mach × List Tl × Cf
def stairOk (i : Mach × List Tl × Cf) : Prop := i.1.Ok ∧ i.2.2.Ok i.1 ∧ i.2.2.l.length + i.2.2.r.length ≤ 400
def sp_TileStair_down : Sp := spP (ι := Mach × List Tl × Cf) stairOk (fun i => [pStair K i.1 i.2.1, pD (dCf i.2.2)]) fun i => pD (dI (i.1.line i.2.2))
def sp_TileStair_up : Sp := spP (ι := Mach × List Tl × Cf) stairOk (fun i => [pStair K i.1 i.2.1, pD (dI (i.1.line i.2.2))]) fun i => pD (dCf i.2.2)
def sp_TileStair_pace : Sp := spP (ι := Mach × List Tl × Cf) stairOk (fun i => [pStair K i.1 i.2.1, pD (dCf i.2.2)]) fun i => pI (if (i.1.row i.2.2.q i.2.2.a).isNone then 0 else 1)
def sp_TileStair_ending : Sp := spP (ι := Unit) (fun _ => True) (fun _ => [pAny, pAny]) fun _ => pI 0
def sp_law_cell : Sp := spP (ι := List Int × Int) (fun i => 0 ≤ i.2) (fun i => [pScr K i.1, pI i.2]) fun _ => pAI
def sp_law_mixed : Sp := spP (ι := Int × Int) (fun _ => True) (fun i => [pI i.1, pI i.2]) fun _ => pAI
def digs (n : Nat) (m : Int) (ns : List Int) : Prop := ns.length = n ∧ ∀ z ∈ ns, 0 ≤ z ∧ z < m
def sp_law_digits : Sp := spP (ι := Int × Nat × Int) (fun i => i.2.1 ≤ 100 ∧ 0 < i.2.2 ∧ i.2.2 ≤ 1000) (fun i => [pI i.1, pI (i.2.1 : Int), pI i.2.2]) fun i => pEx (digs i.2.1 i.2.2) fun ns => pL (ns.map .int)
def sp_law_tape : Sp := spP (ι := List Int) (fun ns => digs 38 840 ns) (fun ns => [pL (ns.map .int), pI 6, pI 5]) fun _ => pEx (fun M => M.Ok) fun M => pTape K M
def sp_law_trim : Sp := spP (ι := List Int) (fun ns => ns.length ≤ 1000) (fun ns => [pS ns]) fun ns => pD (dI (trim ns))
def cf5 (M : Mach) (c : Cf) : Prop := c.Ok M ∧ c.l.length ≤ 5 ∧ c.r.length ≤ 5
def sp_law_configuration : Sp := spP (ι := Mach × Int) (fun i => i.1.Ok) (fun i => [pTape K i.1, pI i.2]) fun i => pEx (cf5 i.1) fun c => pD (dCf c)
def cfO (M : Mach) (c : Cf) : Prop := M.Ok ∧ c.Ok M ∧ c.l.length + c.r.length ≤ 400
def dCfO : Option Cf → PyData
  | none => .none
  | some c => dCf c
def sp_law_next : Sp := spP (ι := Mach × Cf) (fun i => cfO i.1 i.2) (fun i => [pTape K i.1, pD (dCf i.2)]) fun i => pD (dCfO (i.1.next i.2))
def sp_law_letter : Sp := spP (ι := Mach × Int × Int) (fun i => i.1.Ok) (fun i => [pTape K i.1, pI i.2.1, pI i.2.2]) fun i => pI (i.1.L i.2.1 i.2.2)
def sp_law_line : Sp := spP (ι := Mach × Cf) (fun i => cfO i.1 i.2) (fun i => [pTape K i.1, pD (dCf i.2)]) fun i => pD (dI (i.1.line i.2))
def sp_law_steps : Sp := spP (ι := Mach × Cf × Nat) (fun i => cfO i.1 i.2.1 ∧ i.2.1.l.length + i.2.1.r.length + i.2.2 ≤ 300) (fun i => [pTape K i.1, pD (dCf i.2.1), pI (i.2.2 : Int)]) fun i => pL ((i.1.runM i.2.2 i.2.1).map dCf)
def sp_law_tiles : Sp := spP (ι := Mach) (fun M => M.Ok) (fun M => [pTape K M]) fun M => pEx (fun ts => ts.Perm M.tiles) fun ts => pD (dTs ts)
def sp_law_floors : Sp := spP (ι := List Tl × List Int) stripOk (fun i => [pD (dTs i.1), pD (dI i.2)]) fun i => pL ((rowsF i.1 (fl i.2) 0).map fun r => dI (r.map (·.n)))
def sp_law_cut : Sp := spP (ι := List Int) (fun ns => ns.length ≤ 1000) (fun ns => [pS ns]) fun ns => pD (dI (woe ns))
def sp_law_others : Sp := spP (ι := Mach × List Tl × Int) (fun i => i.1.Ok ∧ i.2.1.Perm i.1.tiles) (fun i => [pTape K i.1, pStair K i.1 i.2.1, pI i.2.2]) fun _ => pB true
def sp_law : Sp := spP (ι := List Int) (fun ns => ns.length ≤ 63) (fun ns => [pScr K ns]) fun _ => pB true
end
theorem spP_len {ι : Type} {pre : ι → Prop} {As : ι → List Pr} {R : ι → Pr} {n : Nat} (hn : ∀ i, (As i).length = n) (vs : List V) (H : Hp) (Q : VK) (E : XK) (h : spP pre As R vs H Q E) : vs.length = n := by
  obtain ⟨i, _, p, _⟩ := h
  rw [p.len, hn]
theorem spI_len {ι : Type} {C : Addr} {pre : ι → Prop} {As : ι → List Pr} {R : ι → Pr} {n : Nat} (hn : ∀ i, (As i).length + 1 = n) (vs : List V) (H : Hp) (Q : VK) (E : XK) (h : spI C pre As R vs H Q E) : vs.length = n := by
  obtain ⟨i, p, dx, ws, H0, e, _, _, _, _, q, _⟩ := h
  rw [e, List.length_cons, q.len, hn]
end SD
end
section
set_option Elab.async false
set_option linter.all false
set_option maxRecDepth 100000
set_option maxHeartbeats 0
namespace SD
open PySem PySem.Spec PyProof.Rows L2
def d_without_ends : He.DefD := ⟨("without_ends", none), "without_ends", "without_ends", defArgs s_without_ends, defBody s_without_ends, defScope s_without_ends, [], []⟩
def d_is_integer : He.DefD := ⟨("is_integer", none), "is_integer", "is_integer", defArgs s_is_integer, defBody s_is_integer, defScope s_is_integer, [], []⟩
def d_trimmed : He.DefD := ⟨("trimmed", none), "trimmed", "trimmed", defArgs s_trimmed, defBody s_trimmed, defScope s_trimmed, [], []⟩
def d_letter_of : He.DefD := ⟨("letter_of", none), "letter_of", "letter_of", defArgs s_letter_of, defBody s_letter_of, defScope s_letter_of, [], []⟩
def d_line_of : He.DefD := ⟨("line_of", none), "line_of", "line_of", defArgs s_line_of, defBody s_line_of, defScope s_line_of, [], []⟩
def d_meaning : He.DefD := ⟨("meaning", none), "meaning", "meaning", defArgs s_meaning, defBody s_meaning, defScope s_meaning, [], []⟩
def d_is_tile : He.DefD := ⟨("_is_tile", none), "_is_tile", "_is_tile", defArgs s_is_tile, defBody s_is_tile, defScope s_is_tile, [], []⟩
def d_reaching : He.DefD := ⟨("_reaching", none), "_reaching", "_reaching", defArgs s_reaching, defBody s_reaching, defScope s_reaching, [], []⟩
def d_rows_of_any_length : He.DefD := ⟨("rows_of_any_length", none), "rows_of_any_length", "rows_of_any_length", defArgs s_rows_of_any_length, defBody s_rows_of_any_length, defScope s_rows_of_any_length, [], []⟩
def d_next_floor : He.DefD := ⟨("next_floor", none), "next_floor", "next_floor", defArgs s_next_floor, defBody s_next_floor, defScope s_next_floor, [], []⟩
def d_tiles_of : He.DefD := ⟨("tiles_of", none), "tiles_of", "tiles_of", defArgs s_tiles_of, defBody s_tiles_of, defScope s_tiles_of, [], []⟩
def d_law_cell : He.DefD := ⟨("_law_cell", none), "_law_cell", "_law_cell", defArgs s_law_cell, defBody s_law_cell, defScope s_law_cell, [], []⟩
def d_law_mixed : He.DefD := ⟨("_law_mixed", none), "_law_mixed", "_law_mixed", defArgs s_law_mixed, defBody s_law_mixed, defScope s_law_mixed, [], []⟩
def d_law_digits : He.DefD := ⟨("_law_digits", none), "_law_digits", "_law_digits", defArgs s_law_digits, defBody s_law_digits, defScope s_law_digits, [], []⟩
def d_law_tape : He.DefD := ⟨("_law_tape", none), "_law_tape", "_law_tape", defArgs s_law_tape, defBody s_law_tape, defScope s_law_tape, [], []⟩
def d_law_trim : He.DefD := ⟨("_law_trim", none), "_law_trim", "_law_trim", defArgs s_law_trim, defBody s_law_trim, defScope s_law_trim, [], []⟩
def d_law_configuration : He.DefD := ⟨("_law_configuration", none), "_law_configuration", "_law_configuration", defArgs s_law_configuration, defBody s_law_configuration, defScope s_law_configuration, [], []⟩
def d_law_next : He.DefD := ⟨("_law_next", none), "_law_next", "_law_next", defArgs s_law_next, defBody s_law_next, defScope s_law_next, [], []⟩
def d_law_letter : He.DefD := ⟨("_law_letter", none), "_law_letter", "_law_letter", defArgs s_law_letter, defBody s_law_letter, defScope s_law_letter, [], []⟩
def d_law_line : He.DefD := ⟨("_law_line", none), "_law_line", "_law_line", defArgs s_law_line, defBody s_law_line, defScope s_law_line, [], []⟩
def d_law_steps : He.DefD := ⟨("_law_steps", none), "_law_steps", "_law_steps", defArgs s_law_steps, defBody s_law_steps, defScope s_law_steps, [], []⟩
def d_law_tiles : He.DefD := ⟨("_law_tiles", none), "_law_tiles", "_law_tiles", defArgs s_law_tiles, defBody s_law_tiles, defScope s_law_tiles, [], []⟩
def d_law_floors : He.DefD := ⟨("_law_floors", none), "_law_floors", "_law_floors", defArgs s_law_floors, defBody s_law_floors, defScope s_law_floors, [], []⟩
def d_law_cut : He.DefD := ⟨("_law_cut", none), "_law_cut", "_law_cut", defArgs s_law_cut, defBody s_law_cut, defScope s_law_cut, [], []⟩
def d_law_others : He.DefD := ⟨("_law_others", none), "_law_others", "_law_others", defArgs s_law_others, defBody s_law_others, defScope s_law_others, [], []⟩
def d_law : He.DefD := ⟨("law", none), "law", "law", defArgs s_law, defBody s_law, defScope s_law, [], []⟩
def d_Tape_init : He.DefD := ⟨("Tape", some "__init__"), "__init__", "Tape.__init__", defArgs s_Tape_init, defBody s_Tape_init, defScope s_Tape_init, [], []⟩
def d_Tape_is_row : He.DefD := ⟨("Tape", some "_is_row"), "_is_row", "Tape._is_row", defArgs s_Tape_is_row, defBody s_Tape_is_row, defScope s_Tape_is_row, [], []⟩
def d_Tape_row : He.DefD := ⟨("Tape", some "row"), "row", "Tape.row", defArgs s_Tape_row, defBody s_Tape_row, defScope s_Tape_row, [], []⟩
def d_Tape_stopped : He.DefD := ⟨("Tape", some "stopped"), "stopped", "Tape.stopped", defArgs s_Tape_stopped, defBody s_Tape_stopped, defScope s_Tape_stopped, [], []⟩
def d_Tiles_init : He.DefD := ⟨("Tiles", some "__init__"), "__init__", "Tiles.__init__", defArgs s_Tiles_init, defBody s_Tiles_init, defScope s_Tiles_init, [], []⟩
def d_Tiles_fitting : He.DefD := ⟨("Tiles", some "fitting"), "fitting", "Tiles.fitting", defArgs s_Tiles_fitting, defBody s_Tiles_fitting, defScope s_Tiles_fitting, [], []⟩
def d_Strip_init : He.DefD := ⟨("Strip", some "__init__"), "__init__", "Strip.__init__", defArgs s_Strip_init, defBody s_Strip_init, defScope s_Strip_init, [], []⟩
def d_Strip_step : He.DefD := ⟨("Strip", some "step"), "step", "Strip.step", defArgs s_Strip_step, defBody s_Strip_step, defScope s_Strip_step, [], []⟩
def d_Strip_rows : He.DefD := ⟨("Strip", some "_rows"), "_rows", "Strip._rows", defArgs s_Strip_rows, defBody s_Strip_rows, defScope s_Strip_rows, [], []⟩
def d_Strip_stopped : He.DefD := ⟨("Strip", some "stopped"), "stopped", "Strip.stopped", defArgs s_Strip_stopped, defBody s_Strip_stopped, defScope s_Strip_stopped, [], []⟩
def d_Strip_run : He.DefD := ⟨("Strip", some "run"), "run", "Strip.run", defArgs s_Strip_run, defBody s_Strip_run, defScope s_Strip_run, [], []⟩
def d_TileStair_init : He.DefD := ⟨("TileStair", some "__init__"), "__init__", "TileStair.__init__", defArgs s_TileStair_init, defBody s_TileStair_init, defScope s_TileStair_init, [], []⟩
def d_TileStair_down : He.DefD := ⟨("TileStair", some "down"), "down", "TileStair.down", defArgs s_TileStair_down, defBody s_TileStair_down, defScope s_TileStair_down, [], []⟩
def d_TileStair_up : He.DefD := ⟨("TileStair", some "up"), "up", "TileStair.up", defArgs s_TileStair_up, defBody s_TileStair_up, defScope s_TileStair_up, [], []⟩
def d_TileStair_pace : He.DefD := ⟨("TileStair", some "pace"), "pace", "TileStair.pace", defArgs s_TileStair_pace, defBody s_TileStair_pace, defScope s_TileStair_pace, [], []⟩
def d_TileStair_ending : He.DefD := ⟨("TileStair", some "ending"), "ending", "TileStair.ending", defArgs s_TileStair_ending, defBody s_TileStair_ending, defScope s_TileStair_ending, [], []⟩
def fn : List He.DefD := [d_without_ends, d_is_integer, d_trimmed, d_letter_of, d_line_of, d_meaning, d_is_tile, d_reaching, d_rows_of_any_length, d_next_floor, d_tiles_of, d_law_cell, d_law_mixed, d_law_digits, d_law_tape, d_law_trim, d_law_configuration, d_law_next, d_law_letter, d_law_line, d_law_steps, d_law_tiles, d_law_floors, d_law_cut, d_law_others, d_law, d_Tape_init, d_Tape_is_row, d_Tape_row, d_Tape_stopped, d_Tiles_init, d_Tiles_fitting, d_Strip_init, d_Strip_step, d_Strip_rows, d_Strip_stopped, d_Strip_run, d_TileStair_init, d_TileStair_down, d_TileStair_up, d_TileStair_pace, d_TileStair_ending]
def fa0 : List He.Fa := [.glo "without_ends", .glo "is_integer", .glo "trimmed", .glo "letter_of", .glo "line_of", .glo "meaning", .glo "_is_tile", .glo "_reaching", .glo "rows_of_any_length", .glo "next_floor", .glo "tiles_of", .glo "_law_cell", .glo "_law_mixed", .glo "_law_digits"]
def fa1 : List He.Fa := [.glo "_law_tape", .glo "_law_trim", .glo "_law_configuration", .glo "_law_next", .glo "_law_letter", .glo "_law_line", .glo "_law_steps", .glo "_law_tiles", .glo "_law_floors", .glo "_law_cut", .glo "_law_others", .glo "law", .glo "Tape", .cls "Tape"]
def fa2 : List He.Fa := [.mkr "Tape", .noat "Tape" "marks", .noat "Tape" "states", .noat "Tape" "_rows", .glo "Tiles", .cls "Tiles", .mkr "Tiles", .noat "Tiles" "tiles", .noat "Tiles" "_by_sides", .glo "Strip", .cls "Strip", .mkr "Strip", .noat "Strip" "tiles", .glo "TileStair"]
def fa3 : List He.Fa := [.cls "TileStair", .mkr "TileStair", .noat "TileStair" "upper", .noat "TileStair" "lower", .meth "Tape" "_is_row", .meth "Tape" "row", .meth "Tape" "stopped", .meth "Tiles" "fitting", .meth "Strip" "step", .meth "Strip" "_rows", .meth "Strip" "stopped", .meth "Strip" "run", .meth "TileStair" "down", .meth "TileStair" "up"]
def fa4 : List He.Fa := [.meth "TileStair" "pace", .meth "TileStair" "ending", .free "isinstance", .free "int", .free "bool", .free "tuple", .free "len", .free "list", .free "range", .free "all", .free "min", .free "max", .free "sorted", .free "reversed"]
def fa5 : List He.Fa := [.free "enumerate", .int "MOST_MARKS" 16, .int "MOST_STATES" 4000, .int "MOST_TILES" 1000, .int "MOST_COLOUR" 999, .int "MOST_ROWS" 2000, .glo "TooLarge", .exc "TooLarge"]
def fa : List He.Fa := fa0 ++ (fa1 ++ (fa2 ++ (fa3 ++ (fa4 ++ (fa5)))))
abbrev R : PySem.W.OpenRow := PySem.W.OpenLaw.row PySem.Challenge.rw_stepdown_k22_whole_strips_do_the_same
abbrev hk : PySem.W.Hook := He.hookD 4 fa fn
def ob (s : PySem.W.SharedT) : He.AlD := He.obsDG 4 fa fn (HandSHeadRun.getT s)
theorem ob_eq (s : PySem.W.SharedT) : ob s = hk.obs s.abs := He.obsDG_eq (HandSHeadRun.getT_eq s)
def loose0 : List PySem.Str := ["_wall", "StairError", "BadMachine", "BadMark", "BadTiles", "TooLarge", "ManyRows", "without_ends", "MOST_MARKS", "MOST_STATES", "is_integer", "trimmed", "Tape", "letter_of"]
def loose1 : List PySem.Str := ["line_of", "meaning", "MOST_TILES", "MOST_COLOUR", "MOST_ROWS", "_is_tile", "Tiles", "_reaching", "rows_of_any_length", "next_floor", "Strip", "tiles_of", "TileStair", "_law_is_integer"]
def loose2 : List PySem.Str := ["_law_cell", "_law_mixed", "_law_digits", "_law_tape", "_law_trim", "_law_configuration", "_law_next", "_law_letter", "_law_line", "_law_steps", "_law_tiles", "_law_floors", "_law_cut", "_law_others"]
def loose : List PySem.Str := loose0 ++ (loose1 ++ (loose2))
theorem run (w : World) : HandSHeadRun.RunEq R (PySem.W.view R.prog [50]) hk ob 6000 loose w := by
  intro os
  kernel_rfl
theorem txt_of {K : PySem.W.Frag} {h : Heap} {mg : Str → Option Value} (X : K.In h) (G : h.Ns mainGlobals mg) (c : He.SaysD fa fn K) : Nonempty (Txt K mg) := by
  obtain ⟨fd_without_ends, F_without_ends⟩ := c.def_ 0 (d := d_without_ends) rfl
  obtain ⟨fd_is_integer, F_is_integer⟩ := c.def_ 1 (d := d_is_integer) rfl
  obtain ⟨fd_trimmed, F_trimmed⟩ := c.def_ 2 (d := d_trimmed) rfl
  obtain ⟨fd_letter_of, F_letter_of⟩ := c.def_ 3 (d := d_letter_of) rfl
  obtain ⟨fd_line_of, F_line_of⟩ := c.def_ 4 (d := d_line_of) rfl
  obtain ⟨fd_meaning, F_meaning⟩ := c.def_ 5 (d := d_meaning) rfl
  obtain ⟨fd_is_tile, F_is_tile⟩ := c.def_ 6 (d := d_is_tile) rfl
  obtain ⟨fd_reaching, F_reaching⟩ := c.def_ 7 (d := d_reaching) rfl
  obtain ⟨fd_rows_of_any_length, F_rows_of_any_length⟩ := c.def_ 8 (d := d_rows_of_any_length) rfl
  obtain ⟨fd_next_floor, F_next_floor⟩ := c.def_ 9 (d := d_next_floor) rfl
  obtain ⟨fd_tiles_of, F_tiles_of⟩ := c.def_ 10 (d := d_tiles_of) rfl
  obtain ⟨fd_law_cell, F_law_cell⟩ := c.def_ 11 (d := d_law_cell) rfl
  obtain ⟨fd_law_mixed, F_law_mixed⟩ := c.def_ 12 (d := d_law_mixed) rfl
  obtain ⟨fd_law_digits, F_law_digits⟩ := c.def_ 13 (d := d_law_digits) rfl
  obtain ⟨fd_law_tape, F_law_tape⟩ := c.def_ 14 (d := d_law_tape) rfl
  obtain ⟨fd_law_trim, F_law_trim⟩ := c.def_ 15 (d := d_law_trim) rfl
  obtain ⟨fd_law_configuration, F_law_configuration⟩ := c.def_ 16 (d := d_law_configuration) rfl
  obtain ⟨fd_law_next, F_law_next⟩ := c.def_ 17 (d := d_law_next) rfl
  obtain ⟨fd_law_letter, F_law_letter⟩ := c.def_ 18 (d := d_law_letter) rfl
  obtain ⟨fd_law_line, F_law_line⟩ := c.def_ 19 (d := d_law_line) rfl
  obtain ⟨fd_law_steps, F_law_steps⟩ := c.def_ 20 (d := d_law_steps) rfl
  obtain ⟨fd_law_tiles, F_law_tiles⟩ := c.def_ 21 (d := d_law_tiles) rfl
  obtain ⟨fd_law_floors, F_law_floors⟩ := c.def_ 22 (d := d_law_floors) rfl
  obtain ⟨fd_law_cut, F_law_cut⟩ := c.def_ 23 (d := d_law_cut) rfl
  obtain ⟨fd_law_others, F_law_others⟩ := c.def_ 24 (d := d_law_others) rfl
  obtain ⟨fd_law, F_law⟩ := c.def_ 25 (d := d_law) rfl
  obtain ⟨fd_Tape_init, F_Tape_init⟩ := c.def_ 26 (d := d_Tape_init) rfl
  obtain ⟨fd_Tape_is_row, F_Tape_is_row⟩ := c.def_ 27 (d := d_Tape_is_row) rfl
  obtain ⟨fd_Tape_row, F_Tape_row⟩ := c.def_ 28 (d := d_Tape_row) rfl
  obtain ⟨fd_Tape_stopped, F_Tape_stopped⟩ := c.def_ 29 (d := d_Tape_stopped) rfl
  obtain ⟨fd_Tiles_init, F_Tiles_init⟩ := c.def_ 30 (d := d_Tiles_init) rfl
  obtain ⟨fd_Tiles_fitting, F_Tiles_fitting⟩ := c.def_ 31 (d := d_Tiles_fitting) rfl
  obtain ⟨fd_Strip_init, F_Strip_init⟩ := c.def_ 32 (d := d_Strip_init) rfl
  obtain ⟨fd_Strip_step, F_Strip_step⟩ := c.def_ 33 (d := d_Strip_step) rfl
  obtain ⟨fd_Strip_rows, F_Strip_rows⟩ := c.def_ 34 (d := d_Strip_rows) rfl
  obtain ⟨fd_Strip_stopped, F_Strip_stopped⟩ := c.def_ 35 (d := d_Strip_stopped) rfl
  obtain ⟨fd_Strip_run, F_Strip_run⟩ := c.def_ 36 (d := d_Strip_run) rfl
  obtain ⟨fd_TileStair_init, F_TileStair_init⟩ := c.def_ 37 (d := d_TileStair_init) rfl
  obtain ⟨fd_TileStair_down, F_TileStair_down⟩ := c.def_ 38 (d := d_TileStair_down) rfl
  obtain ⟨fd_TileStair_up, F_TileStair_up⟩ := c.def_ 39 (d := d_TileStair_up) rfl
  obtain ⟨fd_TileStair_pace, F_TileStair_pace⟩ := c.def_ 40 (d := d_TileStair_pace) rfl
  obtain ⟨fd_TileStair_ending, F_TileStair_ending⟩ := c.def_ 41 (d := d_TileStair_ending) rfl
  obtain ⟨t_MOST_MARKS, i_MOST_MARKS⟩ := He.int_ok X G (c.fact 71 (f := .int "MOST_MARKS" 16) rfl)
  obtain ⟨t_MOST_STATES, i_MOST_STATES⟩ := He.int_ok X G (c.fact 72 (f := .int "MOST_STATES" 4000) rfl)
  obtain ⟨t_MOST_TILES, i_MOST_TILES⟩ := He.int_ok X G (c.fact 73 (f := .int "MOST_TILES" 1000) rfl)
  obtain ⟨t_MOST_COLOUR, i_MOST_COLOUR⟩ := He.int_ok X G (c.fact 74 (f := .int "MOST_COLOUR" 999) rfl)
  obtain ⟨t_MOST_ROWS, i_MOST_ROWS⟩ := He.int_ok X G (c.fact 75 (f := .int "MOST_ROWS" 2000) rfl)
  exact ⟨⟨fd_without_ends,
    F_without_ends,
    fd_is_integer,
    F_is_integer,
    fd_trimmed,
    F_trimmed,
    fd_letter_of,
    F_letter_of,
    fd_line_of,
    F_line_of,
    fd_meaning,
    F_meaning,
    fd_is_tile,
    F_is_tile,
    fd_reaching,
    F_reaching,
    fd_rows_of_any_length,
    F_rows_of_any_length,
    fd_next_floor,
    F_next_floor,
    fd_tiles_of,
    F_tiles_of,
    fd_law_cell,
    F_law_cell,
    fd_law_mixed,
    F_law_mixed,
    fd_law_digits,
    F_law_digits,
    fd_law_tape,
    F_law_tape,
    fd_law_trim,
    F_law_trim,
    fd_law_configuration,
    F_law_configuration,
    fd_law_next,
    F_law_next,
    fd_law_letter,
    F_law_letter,
    fd_law_line,
    F_law_line,
    fd_law_steps,
    F_law_steps,
    fd_law_tiles,
    F_law_tiles,
    fd_law_floors,
    F_law_floors,
    fd_law_cut,
    F_law_cut,
    fd_law_others,
    F_law_others,
    fd_law,
    F_law,
    fd_Tape_init,
    F_Tape_init,
    fd_Tape_is_row,
    F_Tape_is_row,
    fd_Tape_row,
    F_Tape_row,
    fd_Tape_stopped,
    F_Tape_stopped,
    fd_Tiles_init,
    F_Tiles_init,
    fd_Tiles_fitting,
    F_Tiles_fitting,
    fd_Strip_init,
    F_Strip_init,
    fd_Strip_step,
    F_Strip_step,
    fd_Strip_rows,
    F_Strip_rows,
    fd_Strip_stopped,
    F_Strip_stopped,
    fd_Strip_run,
    F_Strip_run,
    fd_TileStair_init,
    F_TileStair_init,
    fd_TileStair_down,
    F_TileStair_down,
    fd_TileStair_up,
    F_TileStair_up,
    fd_TileStair_pace,
    F_TileStair_pace,
    fd_TileStair_ending,
    F_TileStair_ending,
    He.glo_ok X G (c.fact 0 (f := .glo "without_ends") rfl),
    He.glo_ok X G (c.fact 1 (f := .glo "is_integer") rfl),
    He.glo_ok X G (c.fact 2 (f := .glo "trimmed") rfl),
    He.glo_ok X G (c.fact 3 (f := .glo "letter_of") rfl),
    He.glo_ok X G (c.fact 4 (f := .glo "line_of") rfl),
    He.glo_ok X G (c.fact 5 (f := .glo "meaning") rfl),
    He.glo_ok X G (c.fact 6 (f := .glo "_is_tile") rfl),
    He.glo_ok X G (c.fact 7 (f := .glo "_reaching") rfl),
    He.glo_ok X G (c.fact 8 (f := .glo "rows_of_any_length") rfl),
    He.glo_ok X G (c.fact 9 (f := .glo "next_floor") rfl),
    He.glo_ok X G (c.fact 10 (f := .glo "tiles_of") rfl),
    He.glo_ok X G (c.fact 11 (f := .glo "_law_cell") rfl),
    He.glo_ok X G (c.fact 12 (f := .glo "_law_mixed") rfl),
    He.glo_ok X G (c.fact 13 (f := .glo "_law_digits") rfl),
    He.glo_ok X G (c.fact 14 (f := .glo "_law_tape") rfl),
    He.glo_ok X G (c.fact 15 (f := .glo "_law_trim") rfl),
    He.glo_ok X G (c.fact 16 (f := .glo "_law_configuration") rfl),
    He.glo_ok X G (c.fact 17 (f := .glo "_law_next") rfl),
    He.glo_ok X G (c.fact 18 (f := .glo "_law_letter") rfl),
    He.glo_ok X G (c.fact 19 (f := .glo "_law_line") rfl),
    He.glo_ok X G (c.fact 20 (f := .glo "_law_steps") rfl),
    He.glo_ok X G (c.fact 21 (f := .glo "_law_tiles") rfl),
    He.glo_ok X G (c.fact 22 (f := .glo "_law_floors") rfl),
    He.glo_ok X G (c.fact 23 (f := .glo "_law_cut") rfl),
    He.glo_ok X G (c.fact 24 (f := .glo "_law_others") rfl),
    He.glo_ok X G (c.fact 25 (f := .glo "law") rfl),
    He.glo_ok X G (c.fact 26 (f := .glo "Tape") rfl),
    He.cls_ok (c.fact 27 (f := .cls "Tape") rfl),
    He.mkr_ok (c.fact 28 (f := .mkr "Tape") rfl),
    He.noat_ok (c.fact 29 (f := .noat "Tape" "marks") rfl),
    He.noat_ok (c.fact 30 (f := .noat "Tape" "states") rfl),
    He.noat_ok (c.fact 31 (f := .noat "Tape" "_rows") rfl),
    He.glo_ok X G (c.fact 32 (f := .glo "Tiles") rfl),
    He.cls_ok (c.fact 33 (f := .cls "Tiles") rfl),
    He.mkr_ok (c.fact 34 (f := .mkr "Tiles") rfl),
    He.noat_ok (c.fact 35 (f := .noat "Tiles" "tiles") rfl),
    He.noat_ok (c.fact 36 (f := .noat "Tiles" "_by_sides") rfl),
    He.glo_ok X G (c.fact 37 (f := .glo "Strip") rfl),
    He.cls_ok (c.fact 38 (f := .cls "Strip") rfl),
    He.mkr_ok (c.fact 39 (f := .mkr "Strip") rfl),
    He.noat_ok (c.fact 40 (f := .noat "Strip" "tiles") rfl),
    He.glo_ok X G (c.fact 41 (f := .glo "TileStair") rfl),
    He.cls_ok (c.fact 42 (f := .cls "TileStair") rfl),
    He.mkr_ok (c.fact 43 (f := .mkr "TileStair") rfl),
    He.noat_ok (c.fact 44 (f := .noat "TileStair" "upper") rfl),
    He.noat_ok (c.fact 45 (f := .noat "TileStair" "lower") rfl),
    He.meth_ok (c.fact 46 (f := .meth "Tape" "_is_row") rfl),
    He.meth_ok (c.fact 47 (f := .meth "Tape" "row") rfl),
    He.meth_ok (c.fact 48 (f := .meth "Tape" "stopped") rfl),
    He.meth_ok (c.fact 49 (f := .meth "Tiles" "fitting") rfl),
    He.meth_ok (c.fact 50 (f := .meth "Strip" "step") rfl),
    He.meth_ok (c.fact 51 (f := .meth "Strip" "_rows") rfl),
    He.meth_ok (c.fact 52 (f := .meth "Strip" "stopped") rfl),
    He.meth_ok (c.fact 53 (f := .meth "Strip" "run") rfl),
    He.meth_ok (c.fact 54 (f := .meth "TileStair" "down") rfl),
    He.meth_ok (c.fact 55 (f := .meth "TileStair" "up") rfl),
    He.meth_ok (c.fact 56 (f := .meth "TileStair" "pace") rfl),
    He.meth_ok (c.fact 57 (f := .meth "TileStair" "ending") rfl),
    He.free_ok X G (c.fact 58 (f := .free "isinstance") rfl),
    He.free_ok X G (c.fact 59 (f := .free "int") rfl),
    He.free_ok X G (c.fact 60 (f := .free "bool") rfl),
    He.free_ok X G (c.fact 61 (f := .free "tuple") rfl),
    He.free_ok X G (c.fact 62 (f := .free "len") rfl),
    He.free_ok X G (c.fact 63 (f := .free "list") rfl),
    He.free_ok X G (c.fact 64 (f := .free "range") rfl),
    He.free_ok X G (c.fact 65 (f := .free "all") rfl),
    He.free_ok X G (c.fact 66 (f := .free "min") rfl),
    He.free_ok X G (c.fact 67 (f := .free "max") rfl),
    He.free_ok X G (c.fact 68 (f := .free "sorted") rfl),
    He.free_ok X G (c.fact 69 (f := .free "reversed") rfl),
    He.free_ok X G (c.fact 70 (f := .free "enumerate") rfl),
    t_MOST_MARKS,
    i_MOST_MARKS,
    t_MOST_STATES,
    i_MOST_STATES,
    t_MOST_TILES,
    i_MOST_TILES,
    t_MOST_COLOUR,
    i_MOST_COLOUR,
    t_MOST_ROWS,
    i_MOST_ROWS,
    He.glo_ok X G (c.fact 76 (f := .glo "TooLarge") rfl)⟩⟩
end SD
end
section
set_option Elab.async false
set_option linter.all false
set_option maxRecDepth 100000
set_option maxHeartbeats 4000000
namespace SD
open PySem L2 Evl SDR
section
variable {X : Cx}
theorem ix_tupK (K : PySem.W.Frag) (h : X.K = K) : IxR X (rIxT K) := by subst h; exact ix_tup
theorem ix_listK (K : PySem.W.Frag) (h : X.K = K) : IxR X (rIxL K) := by subst h; exact ix_list
theorem op_catAK (K : PySem.W.Frag) (h : X.K = K) : OpR X (binaryOp .Add) (rCatA K) := by subst h; exact op_catA
theorem call_isiK (K : PySem.W.Frag) (h : X.K = K) : CallR X (.builtin "isinstance") (rIsi K) := by subst h; exact call_isi
theorem pe_fldK {e : Expr} {f : Str} {pos : Pos} {ta : TE} (K : PySem.W.Frag) (h : X.K = K) (he : PE X e ta) (hb : attributeBase e f X.env (eval e X.env) = eval e X.env) : PE X (.Attribute e f pos) (tFld K ta f) := by subst h; exact pe_fld he hb
end
section
variable {P : Program} {w : World} {K : PySem.W.Frag} {mg : Str → Option Value} {base : Heap}
theorem hq_of {A : Around} {k n : Nat} (hr : Room k A) (h : n ≤ 150) : A.units + n < cLine := by have := hr.un; omega
theorem cut_to {ds : List PyData} {k : Nat} (h : k ≤ ds.length) : cutD ds none (some (k : Int)) = ds.take k := by
  unfold cutD
  rw [HT.sIx_none, HT.sIx_nat, List.drop_zero, Nat.sub_zero, Nat.min_eq_left h]
theorem cut_from {ds : List PyData} {k : Nat} (h : k ≤ ds.length) : cutD ds (some (k : Int)) none = ds.drop k := by
  unfold cutD
  rw [HT.sIx_none, HT.sIx_nat, Nat.min_eq_left h]
  exact List.take_of_length_le (by rw [List.length_drop]; exact Nat.le_refl _)
theorem cut_mid {ds : List PyData} {a b : Nat} (ha : a ≤ ds.length) (hb : b ≤ ds.length) : cutD ds (some (a : Int)) (some (b : Int)) = (ds.drop a).take (b - a) := by
  unfold cutD
  rw [HT.sIx_nat, HT.sIx_nat, Nat.min_eq_left ha, Nat.min_eq_left hb]
theorem int_at {ns : List Int} {j : Nat} (h : j < ns.length) : (ns.map PyData.int)[j]? = some (.int (ns.getD j 0)) := by
  rw [List.getElem?_map, List.getD_eq_getElem?_getD, List.getElem?_eq_getElem h]
  rfl
/-- an int of a tuple of ints -/
theorem ev_intT {σ : L2.St} {H : Hp} {ta tb : TE} {ns : List Int} {k : Int} {j : Nat} (ha : EvD ta σ H (dI ns)) (hb : Ev tb σ H (.int k)) (e : k = (j : Int)) (h : j < ns.length) : Ev (tOp (rIxT K) ta tb) σ H (.int (ns.getD j 0)) :=
  evi (evd_ixT ha hb ⟨j, by rw [e]; exact ixN_nat (by rw [List.length_map]; exact h), int_at h⟩)
theorem ev_intL {σ : L2.St} {H : Hp} {ta tb : TE} {ns : List Int} {k : Int} {j : Nat} (ha : EvP ta σ H (pL (ns.map .int))) (hb : Ev tb σ H (.int k)) (e : k = (j : Int)) (h : j < ns.length) : Ev (tOp (rIxL K) ta tb) σ H (.int (ns.getD j 0)) :=
  evi (evd_ixL ha hb ⟨j, by rw [e]; exact ixN_nat (by rw [List.length_map]; exact h), int_at h⟩)
theorem dec_vint (a b : Int) : decide (V.int a = V.int b) = decide (a = b) := by
  by_cases h : a = b
  · subst h
    simp
  · rw [decide_eq_false h, decide_eq_false (fun e => h (V.int.inj e))]

/-! names, fields, methods -/
section
variable {σ : L2.St} {H H' : Hp} {ta tb tc : TE} {v x y : V} {i : Nat} {d : PyData} {ds : List PyData} {M : Mach} {ts : List Tl} {ns : List Int}
theorem evd_v (h : σ[i]? = some (some v)) (p : Is H v d) : EvD (tVar i) σ H d := evp_var h p
theorem evl_v (h : σ[i]? = some (some v)) (p : pL ds v H) : EvP (tVar i) σ H (pL ds) := evp_var h p
theorem ev_marks (T : Txt K mg) (ha : Ev ta σ H v) (h : pTape K M v H) : Ev (tFld K ta "marks") σ H (.int M.m) := by
  obtain ⟨p, dx, l, xs, rfl, h1, _⟩ := h
  exact ev_fld ha h1 T.c_Tape T.n_Tape_marks (tapeF_marks _ _ _)
theorem ev_states (T : Txt K mg) (ha : Ev ta σ H v) (h : pTape K M v H) : Ev (tFld K ta "states") σ H (.int M.s) := by
  obtain ⟨p, dx, l, xs, rfl, h1, _⟩ := h
  exact ev_fld ha h1 T.c_Tape T.n_Tape_states (tapeF_states _ _ _)
theorem evl_rows (T : Txt K mg) (ha : Ev ta σ H v) (h : pTape K M v H) : EvP (tFld K ta "_rows") σ H (pL (M.rows.map dRow)) := by
  obtain ⟨p, dx, l, xs, rfl, h1, h2, h3⟩ := h
  exact evp_is (ev_fld ha h1 T.c_Tape T.n_Tape_rows (tapeF_rows _ _ _)) ⟨l, xs, rfl, h2, h3⟩
theorem evd_tiles (T : Txt K mg) (ha : Ev ta σ H v) (h : pTiles K ts v H) : EvD (tFld K ta "tiles") σ H (dTs ts) := by
  obtain ⟨p, dx, t, xs, d, kvs, rfl, h1, h2, h3, _⟩ := h
  exact evp_is (ev_fld ha h1 T.c_Tiles T.n_Tiles_tiles (f2_1 _ _ nm4)) (.tup h2 h3)
theorem strip_tiles (T : Txt K mg) (h : pStrip K ts v H) : ∃ u, pTiles K ts u H ∧ ∀ {ta : TE} {σ : L2.St} {H' : Hp}, Ex H H' → Ev ta σ H' v → Ev (tFld K ta "tiles") σ H' u := by
  obtain ⟨p, dx, u, rfl, h1, h2⟩ := h
  exact ⟨u, h2, fun e ha => ev_fld ha (e _ _ h1) T.c_Strip T.n_Strip_tiles (f1_at _ _)⟩
theorem stair_parts (T : Txt K mg) (h : pStair K M ts v H) : ∃ u z, pTape K M u H ∧ pStrip K ts z H ∧ (∀ {ta : TE} {σ : L2.St} {H' : Hp}, Ex H H' → Ev ta σ H' v → Ev (tFld K ta "upper") σ H' u) ∧ ∀ {ta : TE} {σ : L2.St} {H' : Hp}, Ex H H' → Ev ta σ H' v → Ev (tFld K ta "lower") σ H' z := by
  obtain ⟨p, dx, u, z, rfl, h1, h2, h3⟩ := h
  exact ⟨u, z, h2, h3, fun e ha => ev_fld ha (e _ _ h1) T.c_TileStair T.n_TileStair_upper (f2_1 _ _ nm5), fun e ha => ev_fld ha (e _ _ h1) T.c_TileStair T.n_TileStair_lower (f2_2 _ _ _ _)⟩
section
variable {ι : Type} {pre : ι → Prop} {As : ι → List Pr} {R : ι → Pr} {E : XK} {t : TA} {m : Str} {Ps : List Pr}
theorem evp_mTape (ip : ι) (hp : pre ip) (ha : Ev ta σ H v) (h : pTape K M v H) (hs : EvPs t σ H (Pl Ps)) (hA : As ip = pTape K M :: Ps := by rfl) (n1 : ¬ m = "marks" := by decide +kernel) (n2 : ¬ m = "states" := by decide +kernel) (n3 : ¬ m = "_rows" := by decide +kernel) :
    EvP (tMeth (cTape K) m (spP pre As R) [] E ta t) σ H (R ip) := by
  obtain ⟨p, dx, l, xs, rfl, h1, h2, h3⟩ := h
  exact evp_meth ip hp hA ha h1 (tapeF_no _ _ _ n1 n2 n3) ⟨p, dx, l, xs, rfl, h1, h2, h3⟩ hs
theorem evp_mTiles (ip : ι) (hp : pre ip) (ha : Ev ta σ H v) (h : pTiles K ts v H) (hs : EvPs t σ H (Pl Ps)) (hA : As ip = pTiles K ts :: Ps := by rfl) (n1 : ¬ m = "tiles" := by decide +kernel) (n2 : ¬ m = "_by_sides" := by decide +kernel) :
    EvP (tMeth (cTiles K) m (spP pre As R) [] E ta t) σ H (R ip) := by
  have h' := h
  obtain ⟨p, dx, t, xs, d, kvs, rfl, h1, h2⟩ := h
  exact evp_meth ip hp hA ha h1 (f2_no _ _ n1 n2) h' hs
theorem evp_mStrip (ip : ι) (hp : pre ip) (ha : Ev ta σ H v) (h : pStrip K ts v H) (hs : EvPs t σ H (Pl Ps)) (hA : As ip = pStrip K ts :: Ps := by rfl) (n1 : ¬ m = "tiles" := by decide +kernel) :
    EvP (tMeth (cStrip K) m (spP pre As R) [] E ta t) σ H (R ip) := by
  have h' := h
  obtain ⟨p, dx, u, rfl, h1, h2⟩ := h
  exact evp_meth ip hp hA ha h1 (f1_no _ n1) h' hs
theorem evp_mStair (ip : ι) (hp : pre ip) (ha : Ev ta σ H v) (h : pStair K M ts v H) (hs : EvPs t σ H (Pl Ps)) (hA : As ip = pStair K M ts :: Ps := by rfl) (n1 : ¬ m = "upper" := by decide +kernel) (n2 : ¬ m = "lower" := by decide +kernel) :
    EvP (tMeth (cStair K) m (spP pre As R) [] E ta t) σ H (R ip) := by
  have h' := h
  obtain ⟨p, dx, u, z, rfl, h1, h2⟩ := h
  exact evp_meth ip hp hA ha h1 (f2_no _ _ n1 n2) h' hs
end
/-- isinstance -/
theorem ev_isTup (ha : EvD ta σ H (.tuple ds)) : Ev (tCB (rIsi K) (tCons ta (tCons (tC (.ty "tuple")) tNil))) σ H (.bl true) := fun H1 e Q q => ha H1 e _ fun x H2 e2 p => by
  obtain ⟨a, xs, rfl, g1, g2⟩ := is_tup.mp p
  exact ⟨.ref a, .ty "tuple", .type "tuple", .type "tuple", true, rfl, .ty _, .base (.tup g1), kit_ty (by decide +kernel), q H2 e2⟩
theorem ev_isInt {k : Int} (ha : Ev ta σ H (.int k)) : Ev (tCB (rIsi K) (tCons ta (tCons (tC (.ty "int")) tNil))) σ H (.bl true) := ev_isi ha ev_c (.ty "int") (fun _ _ => .base (.int _)) (kit_ty (a := "int") (b := "int") (r := true) (by decide +kernel))
theorem ev_isBool0 {k : Int} (ha : Ev ta σ H (.int k)) : Ev (tCB (rIsi K) (tCons ta (tCons (tC (.ty "bool")) tNil))) σ H (.bl false) := ev_isi ha ev_c (.ty "bool") (fun _ _ => .base (.int _)) (kit_ty (a := "int") (b := "bool") (r := false) (by decide +kernel))
theorem ev_isBool {b : Bool} (ha : Ev ta σ H (.bl b)) : Ev (tCB (rIsi K) (tCons ta (tCons (tC (.ty "bool")) tNil))) σ H (.bl true) := ev_isi ha ev_c (.ty "bool") (fun _ _ => .base (.bl _)) (kit_ty (a := "bool") (b := "bool") (r := true) (by decide +kernel))
/-- min, max of a tuple against an int -/
theorem ev_best {g : Int → Int → V} {c : Int} (ha : EvD ta σ H (dI ns)) (hne : ns ≠ []) (h : ∀ m ∈ ns, g m c = x) : Ev (tOp (rI0 g) (tCB (rBest K) (tCons ta tNil)) (tC (.int c))) σ H x := fun H1 e Q q => ha H1 e _ fun v H2 e2 p => by
  obtain ⟨a, rfl, g1⟩ := is_dI.mp p
  exact ⟨a, ns, rfl, SqT.of g1, hne, fun m hm => ⟨m, c, rfl, rfl, by rw [h m hm]; exact q H2 e2⟩⟩
theorem ev_all {bs : List Bool} (ha : EvP ta σ H (pL (bs.map .bool))) : Ev (tCB (rAll K) (tCons ta tNil)) σ H (.bl (bs.all id)) := fun H1 e Q q => ha H1 e _ fun v H2 e2 ⟨a, xs, ev, g1, g2⟩ => by
  subst ev
  rw [iss_bools.mp g2] at g1
  exact ⟨a, bs, rfl, SqL.of g1, q H2 e2⟩
theorem ev_notInD (ha : EvD ta σ H d) (hb : EvD tb σ H (.tuple ds)) (sd : SeqAt.shaped d = true) (st : SeqAt.shaped (.tuple ds) = true) : Ev (tOp (rNotInDT K) ta tb) σ H (.bl (!ds.any fun z => PyData.eqv z d)) := ev_of (evp_op ha hb fun H1 x y _ p1 p2 Q q =>
  ⟨d, ds, Is.dp _ _ p1, Is.dp _ _ p2, sd, st, q _ H1 (Ex.refl H1) rfl⟩)
theorem ev_I {g : Int → Int → V} {a b : Int} (ha : Ev ta σ H (.int a)) (hb : Ev tb σ H (.int b)) : Ev (tOp (rI0 g) ta tb) σ H (g a b) := ev_op ha hb rv_I0
theorem ev_mul {a b : Int} (ha : Ev ta σ H (.int a)) (hb : Ev tb σ H (.int b)) (h : CMul a b) : Ev (tOp (rI CMul fun i j => .int (i * j)) ta tb) σ H (.int (a * b)) := ev_op ha hb (rv_I h)
theorem ev_mod {a b : Int} (ha : Ev ta σ H (.int a)) (hb : Ev tb σ H (.int b)) (h : 0 < b) : Ev (tOp (rI (fun _ j => 0 < j) fun i j => .int (i % j)) ta tb) σ H (.int (a % b)) := ev_op ha hb (rv_I h)
theorem ev_div {a b : Int} (ha : Ev ta σ H (.int a)) (hb : Ev tb σ H (.int b)) (h : 0 < b ∧ b < 1073741824) : Ev (tOp (rI CDiv fun i j => .int (i / j)) ta tb) σ H (.int (a / b)) := ev_op ha hb (rv_I h)
theorem ev_eqI {a b : Int} (ha : Ev ta σ H (.int a)) (hb : Ev tb σ H (.int b)) : Ev (tOp rEq ta tb) σ H (.bl (decide (a = b))) := ev_is (ev_op ha hb (rv_eq rfl)) (by rw [dec_vint])
theorem ev_neI {a b : Int} (ha : Ev ta σ H (.int a)) (hb : Ev tb σ H (.int b)) : Ev (tOp rNe ta tb) σ H (.bl (!decide (a = b))) := ev_is (ev_op ha hb (rv_ne rfl)) (by rw [dec_vint])
theorem cm_r {a b : Int} (h : -1000000 ≤ b ∧ b ≤ 1000000) : CMul a b := .inr ⟨by omega, by omega⟩
theorem cm_l {a b : Int} (h : -1000000 ≤ a ∧ a ≤ 1000000) : CMul a b := .inl ⟨by omega, by omega⟩
/-- the last of a list -/
theorem evd_lastL (ha : EvP ta σ H (pL (ds ++ [d]))) : EvD (tOp (rIxL K) ta (tUn (rU fun i => .int (-i)) (tC (.int 1)))) σ H d := evd_ixL ha (ev_un ev_c ru_neg) ix_last
end
end
end SD
end
section
set_option Elab.async false
set_option linter.all false
set_option maxRecDepth 100000
set_option maxHeartbeats 4000000
namespace SD
open PySem L2 Evl SDR
section
variable {P : Program} {w : World} {K : PySem.W.Frag} {mg : Str → Option Value} {base : Heap}
variable {σ : L2.St} {H H' : Hp} {ta tb tc te tl : TE} {v x y : V} {d d' : PyData} {ds : List PyData} {M : Mach} {ts : List Tl} {ns : List Int} {D : Ends} {tu tw tz : TS}
theorem evd_eq (h : EvD te σ H d) (e : d = d') : EvD te σ H d' := e ▸ h
/-- for x in a tuple of data -/
theorem q_forD {j : Nat} (h : EvD tl σ H (.tuple ds)) (Pv : Nat → L2.St → Hp → Prop) (h0 : ∀ H1, Ex H H1 → Pv 0 σ H1)
    (hs : ∀ (H0 : Hp) (i : Nat) (d : PyData) (x : V) (σ' : L2.St) (H' : Hp), Tsm H0 H' → ds[i]? = some d → Is H' x d → Pv i σ' H' → tu { D with nx := fun σ2 H2 => Tsm H0 H2 ∧ Pv (i + 1) σ2 H2, ct := fun σ2 H2 => Tsm H0 H2 ∧ Pv (i + 1) σ2 H2, bk := tz D } (σ'.set j (some x)) H')
    (hd : ∀ σ' H', Pv ds.length σ' H' → tz D σ' H') : tSeq (tFor (iTup K tl) (gName j) tu) tz D σ H := h H (Ex.refl H) _ fun v H1 e p => by
  obtain ⟨a, xs, rfl, h1, h2⟩ := is_tup.mp p
  refine ⟨a, rfl, ⟨xs, SqT.of h1⟩, for_tup (D := { D with nx := tz D }) (xs := xs) (fun i σ' H' => Tsm H1 H' ∧ Pv i σ' H') ⟨Tsm.refl _, h0 H1 e⟩ (fun i σ' H' _ p => SqT.of (p.1 _ _ h1)) (fun i x σ' H' hi p => ?_) fun σ' H' p => ?_⟩
  · obtain ⟨d, hd1, hx⟩ := h2.get' hi
    exact hs H1 i d x σ' H' p.1 hd1 (hx.m p.1) p.2
  · have e1 := h2.len
    exact hd σ' H' (by rw [← e1]; exact p.2)
/-- the last statement -/
theorem s_forD {j : Nat} (h : EvD tl σ H (.tuple ds)) (Pv : Nat → L2.St → Hp → Prop) (h0 : ∀ H1, Ex H H1 → Pv 0 σ H1)
    (hs : ∀ (H0 : Hp) (i : Nat) (d : PyData) (x : V) (σ' : L2.St) (H' : Hp), Tsm H0 H' → ds[i]? = some d → Is H' x d → Pv i σ' H' → tu { D with nx := fun σ2 H2 => Tsm H0 H2 ∧ Pv (i + 1) σ2 H2, ct := fun σ2 H2 => Tsm H0 H2 ∧ Pv (i + 1) σ2 H2, bk := D.nx } (σ'.set j (some x)) H')
    (hd : ∀ σ' H', Pv ds.length σ' H' → D.nx σ' H') : tFor (iTup K tl) (gName j) tu D σ H := h H (Ex.refl H) _ fun v H1 e p => by
  obtain ⟨a, xs, rfl, h1, h2⟩ := is_tup.mp p
  refine ⟨a, rfl, ⟨xs, SqT.of h1⟩, for_tup (D := D) (xs := xs) (fun i σ' H' => Tsm H1 H' ∧ Pv i σ' H') ⟨Tsm.refl _, h0 H1 e⟩ (fun i σ' H' _ p => SqT.of (p.1 _ _ h1)) (fun i x σ' H' hi p => ?_) fun σ' H' p => ?_⟩
  · obtain ⟨d, hd1, hx⟩ := h2.get' hi
    exact hs H1 i d x σ' H' p.1 hd1 (hx.m p.1) p.2
  · have e1 := h2.len
    exact hd σ' H' (by rw [← e1]; exact p.2)
/-- for x in reversed(a tuple) -/
theorem q_forRT {j : Nat} {a : Addr} {xs : List V} (h : Ev tl σ H (.ref a)) (hx : H a = some (.tup xs)) (Pv : Nat → L2.St → Hp → Prop) (h0 : ∀ H1, Ex H H1 → Pv 0 σ H1) (hl : ∀ i σ' H', Pv i σ' H' → H' a = some (.tup xs))
    (hs : ∀ (i : Nat) (x : V) (σ' : L2.St) (H' : Hp), i < xs.length → xs[xs.length - 1 - i]? = some x → Pv i σ' H' → tu { D with nx := Pv (i + 1), ct := Pv (i + 1), bk := tz D } (σ'.set j (some x)) H')
    (hd : ∀ σ' H', Pv xs.length σ' H' → tz D σ' H') : tSeq (tFor (RT.iRevA K tl) (gName j) tu) tz D σ H := h H (Ex.refl H) _ fun H1 e =>
  ⟨a, xs, rfl, .inr ⟨SqT.of (e _ _ hx), RT.for_ItvT (D := { D with nx := tz D }) Pv (h0 H1 e) (fun i σ' H' p => SqT.of (hl i σ' H' p)) (fun i x σ' H' hi hx p => hs i x σ' H' hi hx p) hd⟩⟩
/-- for i, x in enumerate(a tuple) -/
theorem q_forEnum {j1 j2 : Nat} {a : Addr} {xs : List V} (h : Ev tl σ H (.ref a)) (hx : H a = some (.tup xs)) (Pv : Nat → L2.St → Hp → Prop) (h0 : ∀ H1, Ex H H1 → Pv 0 σ H1) (hl : ∀ i σ' H', Pv i σ' H' → H' a = some (.tup xs))
    (hs : ∀ (i : Nat) (x : V) (σ' : L2.St) (H' H2 : Hp), xs[i]? = some x → Pv i σ' H' → Ex H' H2 → tu { D with nx := Pv (i + 1), ct := Pv (i + 1), bk := tz D } ((σ'.set j1 (some (.int (i : Nat)))).set j2 (some x)) H2)
    (hd : ∀ σ' H', Pv xs.length σ' H' → tz D σ' H') : tSeq (tFor (iEnumT K (tCons tl tNil)) (gTup K 2 (gCons (gName j1) (gCons (gName j2) gNil))) tu) tz D σ H := h H (Ex.refl H) _ fun H1 e =>
  ⟨a, xs, rfl, SqT.of (e _ _ hx), for_IteT (D := { D with nx := tz D }) Pv (h0 H1 e) (fun i σ' H' p => SqT.of (hl i σ' H' p)) (fun i x T σ' H' hi p hT => ⟨T, _, rfl, SqT.of upd_same, rfl, _, _, rfl, _, _, rfl, rfl, hs i x σ' H' _ hi p (Ex.new hT)⟩) hd⟩
/-- state, left, mark, right = a configuration -/
theorem q_cf {i j k l : Nat} {c : Cf} (h : EvD te σ H (dCf c)) (kk : ∀ vl vr H1, Ex H H1 → Is H1 vl (dI c.l) → Is H1 vr (dI c.r) → tz D ((((σ.set i (some (.int c.q))).set j (some vl)).set k (some (.int c.a))).set l (some vr)) H1) :
    tSeq (tAsg te (gTup K 4 (gCons (gName i) (gCons (gName j) (gCons (gName k) (gCons (gName l) gNil)))))) tz D σ H := q_unp h rfl fun xs H1 e1 hx => by
  cases hx with
  | cons p1 hx =>
    cases hx with
    | cons p2 hx =>
      cases hx with
      | cons p3 hx =>
        cases hx with
        | cons p4 hx =>
          cases hx
          have p1 := is_int.mp p1
          have p3 := is_int.mp p3
          subst p1
          subst p3
          exact ⟨_, _, rfl, _, _, rfl, _, _, rfl, _, _, rfl, rfl, kk _ _ H1 e1 p2 p4⟩
/-- is_integer(a, b, c) -/
theorem ev_isin {E : XK} {a b c : Int} (ha : Ev ta σ H (.int a)) (hb : Ev tb σ H (.int b)) (hc : Ev tc σ H (.int c)) : Ev (tCall sp_is_integer [] E (tCons ta (tCons tb (tCons tc tNil)))) σ H (.bl (decide (b ≤ a) && decide (a ≤ c))) :=
  ev_of (evp_call (a, b, c) trivial (evps_cons (evp ha) (evps_cons (evp hb) (evps_cons (evp hc) evps_nil))))
/-- new dicts -/
theorem ev_newK (k : ∀ p H1, H p = none → Ex H H1 → H1 p = some (.dK []) → tz D (σ.set 5 (some (.ref p))) H1) : tSeq (tAsg tDNewK (gName 5)) tz D σ H := fun p hp => k p _ hp (Ex.new hp) upd_same
/-- d[y] = v, ints -/
theorem s_putK {td ty tv : TE} {a : Addr} {kvs : List (Key × V)} {z : Int} (hv : Ev tv σ H v) (hd : Ev td σ H (.ref a)) (hy : Ev ty σ H (.int z)) (ho : H a = some (.dK kvs)) (hl : kvs.length < 100000) (k : ∀ H1, Ex H H1 → H1 a = some (.dK kvs) → D.nx σ (upd H1 a (.dK (putK kvs (Sum.inl z) v)))) : sDPut td ty tv D σ H :=
  hv H (Ex.refl H) _ fun H1 e1 => hd H1 e1 _ fun H2 e2 => hy H2 (e1.trans e2) _ fun H3 e3 => ⟨a, _, rfl, .inl ⟨kvs, Sum.inl z, e3 _ _ (e2 _ _ (e1 _ _ ho)), rfl, sz_lt hl, rfl⟩, k H3 ((e1.trans e2).trans e3) (e3 _ _ (e2 _ _ (e1 _ _ ho)))⟩
/-- y in d, ints -/
theorem ev_dIn {ty td : TE} {a : Addr} {kvs : List (Key × V)} {z : Int} (hy : Ev ty σ H (.int z)) (hd : Ev td σ H (.ref a)) (ho : H a = some (.dK kvs)) : Ev (tDIn ty td) σ H (.bl (valV kvs (Sum.inl z)).isSome) := fun H1 e Q q =>
  hy H1 e _ fun H2 e2 => hd H2 (e.trans e2) _ fun H3 e3 => ⟨a, _, rfl, DGet.k (k := Sum.inl z) (e3 _ _ (e2 _ _ (e _ _ ho))), q H3 (e2.trans e3)⟩
theorem ev_dNotIn {ty td : TE} {a : Addr} {kvs : List (Key × V)} {z : Int} (hy : Ev ty σ H (.int z)) (hd : Ev td σ H (.ref a)) (ho : H a = some (.dK kvs)) : Ev (tDNotIn ty td) σ H (.bl (!(valV kvs (Sum.inl z)).isSome)) := fun H1 e Q q =>
  hy H1 e _ fun H2 e2 => hd H2 (e.trans e2) _ fun H3 e3 => ⟨a, _, rfl, DGet.k (k := Sum.inl z) (e3 _ _ (e2 _ _ (e _ _ ho))), q H3 (e2.trans e3)⟩
/-- an item of a list, a value -/
theorem ev_ixV {a : Addr} {xs : List V} {k : Int} {j : Nat} (ha : Ev ta σ H (.ref a)) (hb : Ev tb σ H (.int k)) (ho : H a = some (.lst xs)) (hj : ixN xs.length k = some j) (hx : xs[j]? = some v) : Ev (tOp (rIxL K) ta tb) σ H v :=
  ev_op ha hb (rv_ixL (SqL.of ho) (by unfold atI; rw [hj]; exact hx))
theorem ixN_last {n : Nat} : ixN (n + 1) (-1) = some n := by
  unfold ixN
  rw [if_neg (by decide), if_pos (by omega)]
  simp
  omega
end
end SD
end
section
set_option Elab.async false
set_option linter.all false
set_option maxRecDepth 100000
set_option maxHeartbeats 4000000
namespace SD
open PySem L2 Evl SDR
section
variable {P : Program} {w : World} {K : PySem.W.Frag} {mg : Str → Option Value} {base : Heap}
-- is_integer: slots 0:value 1:least 2:most; level 1; callees 
theorem sc_is_integer : FnScope ["value", "least", "most"] ["value", "least", "most"] (defScope s_is_integer) := ⟨rfl, rfl, rfl, by decide +kernel, rfl, by decide +kernel, by decide +kernel⟩
theorem ok_is_integer (T : Txt K mg) : FnOk P w K mg base CX0 1 (He.fAd K ("is_integer", none)) T.fd_is_integer ["value", "least", "most"] (sp_is_integer) := by
  have sc := sc_is_integer
  refine T.F_is_integer.ok sc_is_integer (fun vs H Q E h => ?_) (fun cdv A outer s H vs Q E hr h => ?_)
  · unfold sp_is_integer at h
    obtain ⟨i, _, p, _⟩ := h
    exact p.len
  obtain ⟨⟨v, a, b⟩, _, p, k⟩ := h
  obtain ⟨_, _, _, rfl, rfl, rfl, rfl⟩ := pl3 p
  refine ⟨_, PSs.nox (pss_one (ps_ret (pe_and (pe_callB call_isi (by rfl) T.f_isinstance (by decide +kernel) (pa_cons (pv 0) (pa_cons (pe_bltn (v := .ty "int") (by rfl) T.f_int (by decide +kernel) rfl) pa_nil))) (pe_and (pe_not (pe_callB call_isi (by rfl) T.f_isinstance (by decide +kernel) (pa_cons (pv 0) (pa_cons (pe_bltn (v := .ty "bool") (by rfl) T.f_bool (by decide +kernel) rfl) pa_nil)))) (pe_one (pe_chain op_le op_le (pv 1) (pv 0) (pv 2))))))), ?_⟩
  refine s_retP (evp (ev_is (ev_andV (ev_isi (ev_var rfl) ev_c (.ty "int") (fun _ _ => .base (.int _)) (kit_ty (a := "int") (b := "int") (r := true) (by decide +kernel))) fun _ => ev_andV (ev_notV (ev_isi (ev_var rfl) ev_c (.ty "bool") (fun _ _ => .base (.int _)) (kit_ty (a := "int") (b := "bool") (r := false) (by decide +kernel)))) fun _ => ev_chain (ev_var rfl) (ev_var rfl) (ev_var rfl)) rfl)) k
-- trimmed: slots 0:marks 1:count; level 1; callees 
theorem sc_trimmed : FnScope ["marks", "count"] ["marks"] (defScope s_trimmed) := ⟨rfl, rfl, rfl, by decide +kernel, rfl, by decide +kernel, by decide +kernel⟩
theorem ok_trimmed (T : Txt K mg) : FnOk P w K mg base CX0 1 (He.fAd K ("trimmed", none)) T.fd_trimmed ["marks"] (sp_trimmed) := by
  have sc := sc_trimmed
  refine T.F_trimmed.ok sc_trimmed (fun vs H Q E h => ?_) (fun cdv A outer s H vs Q E hr h => ?_)
  · unfold sp_trimmed at h
    obtain ⟨i, _, p, _⟩ := h
    exact p.len
  obtain ⟨ns, hz, p, k⟩ := h
  obtain ⟨v, rfl, hv⟩ := pl1 p
  refine ⟨_, PSs.nox (pss_cons (ps_set (i := 1) sc.nd rfl (Or.inl rfl) (pe_callB call_len_seq (by rfl) T.f_len (by decide +kernel) (pa_cons (pv 0) pa_nil)))
      (pss_cons (ps_while PassesOwn.never (PW.pt (pw_and (pt_cmpR op_gt (pv 1) pe_int (nomark _)) (pw_and1 (pt_cmpR op_eq (pe_ix ix_tup (pv 0) (pe_op op_sub (pv 1) pe_int) (fun _ _ => rfl)) pe_int (nomark _)))))
       (pss_one (ps_aug (i := 1) sc.nd rfl (Or.inl rfl) pe_int ip_sub)))
      (pss_one (ps_ret (pe_callTy call_tuple_of (by rfl) T.f_tuple (by decide +kernel) (pa_cons (pe_slice sl_tupA (pv 0) po_none (po_some (pv 1))) pa_nil)))))), ?_⟩
  have hv : Is H v (dI ns) := hv
  refine q_asgP (evp (ev_lenT (evp_var (P := pD (dI ns)) rfl hv))) fun u H1 e1 hu1 => ?_
  have hu1 : u = .int ((ns.map PyData.int).length : Int) := hu1
  rw [List.length_map] at hu1
  subst hu1
  refine q_while (fun m σ' H' => Ex H H' ∧ m ≤ ns.length ∧ trimN ns m = trimN ns ns.length ∧ σ' = [some v, some (.int (m : Int))]) ns.length ⟨e1, Nat.le_refl _, rfl, rfl⟩ fun m σ' H' ⟨e2, hm, ht, es⟩ => ?_
  subst es
  refine ⟨decide ((0 : Int) < (m : Int)) && decide (ns.getD (m - 1) 0 = 0), et_and (et_test (ev_op (ev_var rfl) ev_c rv_I0)) (fun hb => et_test (ev_is (ev_op (ev_intT (evp_var (P := pD (dI ns)) rfl (hv.m (Tsm.ex e2))) (ev_op (ev_var rfl) ev_c rv_I0) (j := m - 1) ?_ ?_) ev_c (rv_eq rfl)) (by rw [dec_vint]))), fun hb H3 e3 => ?_, fun hb H3 e3 => ?_⟩
  · have := of_decide_eq_true hb
    omega
  · have := of_decide_eq_true hb
    omega
  · rw [Bool.and_eq_true] at hb
    have h1 := of_decide_eq_true hb.1
    have h2 := of_decide_eq_true hb.2
    refine ⟨fun σ2 H2 => σ2 = [some v, some (.int ((m - 1 : Nat) : Int))] ∧ Ex H H2, fun σ2 H2 ⟨es, e4⟩ => ⟨m - 1, by omega, e4, by omega, ?_, es⟩, ?_⟩
    · rw [← ht]
      have em : m = (m - 1) + 1 := by omega
      rw [em]
      show _ = if ns.getD (m - 1) 0 = 0 then trimN ns (m - 1) else _
      rw [if_pos h2]
      rfl
    · refine s_aug (i := 1) rfl ev_c fun H4 e4 => ⟨?_, (e2.trans e3).trans e4⟩
      have em : ((m : Int) - 1) = ((m - 1 : Nat) : Int) := by omega
      show [some v, some (V.int ((m : Int) - 1))] = _
      rw [em]
  · have hm2 : trimN ns m = m := by
      cases m with
      | zero => rfl
      | succ m =>
        have : ¬ ns.getD m 0 = 0 := fun h0 => by
          rw [show m + 1 - 1 = m from rfl, decide_eq_true h0, decide_eq_true (by omega)] at hb
          cases hb
        unfold trimN
        rw [if_neg this]
    refine s_retP (evd_tupT (evd_sl (evp_var (P := pD (dI ns)) rfl (hv.m (Tsm.ex (e2.trans e3)))) eo_none (eo_some (ev_var rfl)))) fun u H4 e4 p4 => k u H4 ((e2.trans e3).trans e4) ?_
    rw [cut_to (by rw [List.length_map]; exact hm)] at p4
    show Is H4 u (dI (trim ns))
    rw [trim_eq, ← ht, hm2, dI, List.map_take]
    exact p4
-- without_ends: slots 0:row 1:begin 2:end; level 1; callees 
theorem sc_without_ends : FnScope ["row", "begin", "end"] ["row"] (defScope s_without_ends) := ⟨rfl, rfl, rfl, by decide +kernel, rfl, by decide +kernel, by decide +kernel⟩
theorem ok_without_ends (T : Txt K mg) : FnOk P w K mg base CX0 1 (He.fAd K ("without_ends", none)) T.fd_without_ends ["row"] (sp_without_ends) := by
  have sc := sc_without_ends
  refine T.F_without_ends.ok sc_without_ends (fun vs H Q E h => ?_) (fun cdv A outer s H vs Q E hr h => ?_)
  · unfold sp_without_ends at h
    obtain ⟨i, _, p, _⟩ := h
    exact p.len
  obtain ⟨ns, hz, p, k⟩ := h
  obtain ⟨v, rfl, hv⟩ := pl1 p
  refine ⟨_, PSs.nox (pss_cons (ps_set (i := 1) sc.nd rfl (Or.inl rfl) pe_int)
      (pss_cons (ps_set (i := 2) sc.nd rfl (Or.inl rfl) (pe_callB call_len_seq (by rfl) T.f_len (by decide +kernel) (pa_cons (pv 0) pa_nil)))
      (pss_cons (ps_while PassesOwn.never (PW.pt (pw_and (pt_cmpR op_lt (pv 1) (pv 2) (nomark _)) (pw_and1 (pt_cmpR op_eq (pe_ix ix_tup (pv 0) (pv 1) (fun _ _ => rfl)) pe_int (nomark _)))))
       (pss_one (ps_aug (i := 1) sc.nd rfl (Or.inl rfl) pe_int ip_add)))
      (pss_cons (ps_while PassesOwn.never (PW.pt (pw_and (pt_cmpR op_gt (pv 2) (pv 1) (nomark _)) (pw_and1 (pt_cmpR op_eq (pe_ix ix_tup (pv 0) (pe_op op_sub (pv 2) pe_int) (fun _ _ => rfl)) pe_int (nomark _)))))
       (pss_one (ps_aug (i := 2) sc.nd rfl (Or.inl rfl) pe_int ip_sub)))
      (pss_one (ps_ret (pe_callTy call_tuple_of (by rfl) T.f_tuple (by decide +kernel) (pa_cons (pe_slice sl_tupA (pv 0) (po_some (pv 1)) (po_some (pv 2))) pa_nil)))))))), ?_⟩
  have hv : Is H v (dI ns) := hv
  refine q_asgI ev_c fun H0 e0 => ?_
  refine q_asgI (ev_is (ev_lenT (evp_var (P := pD (dI ns)) rfl (hv.m (Tsm.ex e0)))) (by rw [List.length_map])) fun H1 e1 => ?_
  -- begin
  refine q_while (fun m σ' H' => Ex H H' ∧ ∃ b : Nat, m = ns.length - b ∧ b ≤ ns.length ∧ (∀ j, j < b → ns.getD j 0 = 0) ∧ σ' = [some v, some (.int (b : Int)), some (.int (ns.length : Int))]) ns.length ⟨e0.trans e1, 0, rfl, Nat.zero_le _, fun j hj => absurd hj (Nat.not_lt_zero _), rfl⟩ fun m σ' H' ⟨e2, b, hm, hb, hz0, es⟩ => ?_
  subst es
  refine ⟨decide ((b : Int) < (ns.length : Int)) && decide (ns.getD b 0 = 0), et_and (et_test (ev_op (ev_var rfl) (ev_var rfl) rv_I0)) (fun hlt => et_test (ev_is (ev_op (ev_intT (evp_var (P := pD (dI ns)) rfl (hv.m (Tsm.ex e2))) (ev_var rfl) rfl (by have := of_decide_eq_true hlt; omega)) ev_c (rv_eq rfl)) (by rw [dec_vint]))), fun hc H3 e3 => ?_, fun hc H3 e3 => ?_⟩
  · rw [Bool.and_eq_true] at hc
    have h1 := of_decide_eq_true hc.1
    have h2 := of_decide_eq_true hc.2
    refine ⟨fun σ2 H2 => σ2 = [some v, some (.int ((b + 1 : Nat) : Int)), some (.int (ns.length : Int))] ∧ Ex H H2, fun σ2 H2 ⟨es, e4⟩ => ⟨ns.length - (b + 1), by omega, e4, b + 1, rfl, by omega, fun j hj => ?_, es⟩, ?_⟩
    · by_cases hjb : j = b
      · rw [hjb]; exact h2
      · exact hz0 j (by omega)
    · exact s_aug (i := 1) rfl ev_c fun H4 e4 => ⟨rfl, (e2.trans e3).trans e4⟩
  · have hnz : b < ns.length → ns.getD b 0 ≠ 0 := fun hlt h0 => by
      rw [decide_eq_true h0, decide_eq_true (by omega)] at hc
      cases hc
    have hdl := dl_drop ns b hz0 hnz
    -- end
    refine q_while (fun m σ' H' => Ex H H' ∧ b ≤ m ∧ m ≤ ns.length ∧ trimN ns m = trimN ns ns.length ∧ σ' = [some v, some (.int (b : Int)), some (.int (m : Int))]) ns.length ⟨e2.trans e3, hb, Nat.le_refl _, rfl, rfl⟩ fun m σ' H' ⟨e4, hbm, hm, ht, es⟩ => ?_
    subst es
    refine ⟨decide ((b : Int) < (m : Int)) && decide (ns.getD (m - 1) 0 = 0), et_and (et_test (ev_op (ev_var rfl) (ev_var rfl) rv_I0)) (fun hlt => et_test (ev_is (ev_op (ev_intT (evp_var (P := pD (dI ns)) rfl (hv.m (Tsm.ex e4))) (ev_op (ev_var rfl) ev_c rv_I0) (j := m - 1) ?_ ?_) ev_c (rv_eq rfl)) (by rw [dec_vint]))), fun hc H3 e5 => ?_, fun hc H3 e5 => ?_⟩
    · have := of_decide_eq_true hlt
      omega
    · have := of_decide_eq_true hlt
      omega
    · rw [Bool.and_eq_true] at hc
      have h1 := of_decide_eq_true hc.1
      have h2 := of_decide_eq_true hc.2
      refine ⟨fun σ2 H2 => σ2 = [some v, some (.int (b : Int)), some (.int ((m - 1 : Nat) : Int))] ∧ Ex H H2, fun σ2 H2 ⟨es, e6⟩ => ⟨m - 1, by omega, e6, by omega, by omega, ?_, es⟩, ?_⟩
      · rw [← ht]
        have em : m = (m - 1) + 1 := by omega
        rw [em]
        show _ = if ns.getD (m - 1) 0 = 0 then trimN ns (m - 1) else _
        rw [if_pos h2]
        rfl
      · refine s_aug (i := 2) rfl ev_c fun H4 e6 => ⟨?_, (e4.trans e5).trans e6⟩
        have em : ((m : Int) - 1) = ((m - 1 : Nat) : Int) := by omega
        show [some v, some (V.int (b : Int)), some (V.int ((m : Int) - 1))] = _
        rw [em]
    · refine s_retP (evd_tupT (evd_sl (evp_var (P := pD (dI ns)) rfl (hv.m (Tsm.ex (e4.trans e5)))) (eo_some (ev_var rfl)) (eo_some (ev_var rfl)))) fun u H4 e6 p4 => k u H4 ((e4.trans e5).trans e6) ?_
      rw [cut_mid (by rw [List.length_map]; exact hb) (by rw [List.length_map]; exact hm)] at p4
      show Is H4 u (dI (woe ns))
      have ew : woe ns = (ns.drop b).take (m - b) := by
        by_cases hbl : b < m
        · have hmt : trimN ns m = m := by
            cases m with
            | zero => omega
            | succ m =>
              have : ¬ ns.getD m 0 = 0 := fun h0 => by
                rw [show m + 1 - 1 = m from rfl, decide_eq_true h0, decide_eq_true (by omega)] at hc
                cases hc
              unfold trimN
              rw [if_neg this]
          have := drop_take_woe ns b (by rw [← ht, hmt]; exact hbl) hz0 (hnz (by omega))
          rw [this, ← ht, hmt]
        · have ebm : m = b := by omega
          subst ebm
          rw [Nat.sub_self, List.take_zero]
          have h3 : trimN ns ns.length ≤ m := by rw [← ht]; exact trimN_le ns m
          have h4 : ¬ m < ns.length := fun hlt => by
            -- a non-zero at m would be kept
            have hmono : ∀ n, m < n → m < trimN ns n := by
              intro n
              induction n with
              | zero => intro h; omega
              | succ n ih =>
                intro hn
                unfold trimN
                by_cases hz' : ns.getD n 0 = 0
                · rw [if_pos hz']
                  by_cases hmn : m = n
                  · subst hmn; exact absurd hz' (hnz hlt)
                  · exact ih (by omega)
                · rw [if_neg hz']; exact hn
            have := hmono ns.length hlt
            omega
          unfold woe
          rw [hdl, List.drop_eq_nil_of_le (by omega)]
          simp [trim, dl]
      rw [ew, dI, List.map_take, List.map_drop]
      exact p4
-- letter_of: slots 0:marks 1:mark 2:state; level 1; callees 
theorem sc_letter_of : FnScope ["marks", "mark", "state"] ["marks", "mark", "state"] (defScope s_letter_of) := ⟨rfl, rfl, rfl, by decide +kernel, rfl, by decide +kernel, by decide +kernel⟩
theorem ok_letter_of (T : Txt K mg) : FnOk P w K mg base CX0 1 (He.fAd K ("letter_of", none)) T.fd_letter_of ["marks", "mark", "state"] (sp_letter_of) := by
  have sc := sc_letter_of
  refine T.F_letter_of.ok sc_letter_of (fun vs H Q E h => ?_) (fun cdv A outer s H vs Q E hr h => ?_)
  · unfold sp_letter_of at h
    obtain ⟨i, _, p, _⟩ := h
    exact p.len
  obtain ⟨⟨m, a, q⟩, ⟨hm0, hm1⟩, p, k⟩ := h
  obtain ⟨_, _, _, rfl, rfl, rfl, rfl⟩ := pl3 p
  refine ⟨_, PSs.nox (pss_one (ps_ret (pe_ifExp (pt_cmpR op_isN (pv 2) pe_non (nomark _)) (pv 1) (pe_op op_add (pe_op op_mul (pv 0) (pe_op op_add (pv 2) pe_int)) (pv 1))))), ?_⟩
  have hm0 : 0 ≤ m := hm0
  have hm1 : m ≤ 100 := hm1
  refine s_retP (P := pI (m * (q + 1) + a)) ?_ k
  refine evp_if (b := false) (et_test ?_) (fun z => nomatch z) fun _ => evp (ev_op (ev_op (ev_var rfl) (ev_op (ev_var rfl) ev_c rv_I0) (rv_I (.inl ⟨by omega, by omega⟩))) (ev_var rfl) rv_I0)
  exact fun H1 e Q q => ⟨_, rfl, rfl, q H1 (Ex.refl H1)⟩
-- next_floor: slots 0:row 1:tile; level 1; callees 
theorem sc_next_floor : FnScope ["row", "tile"] ["row"] (defScope s_next_floor) := ⟨rfl, rfl, rfl, by decide +kernel, rfl, by decide +kernel, by decide +kernel⟩
theorem ok_next_floor (T : Txt K mg) : FnOk P w K mg base CX0 1 (He.fAd K ("next_floor", none)) T.fd_next_floor ["row"] (sp_next_floor) := by
  have sc := sc_next_floor
  refine T.F_next_floor.ok sc_next_floor (fun vs H Q E h => ?_) (fun cdv A outer s H vs Q E hr h => ?_)
  · unfold sp_next_floor at h
    obtain ⟨i, _, p, _⟩ := h
    exact p.len
  obtain ⟨r, hz, p, k⟩ := h
  obtain ⟨v, rfl, hv⟩ := pl1 p
  refine ⟨_, PSs.nox (pss_one (ps_ret (pe_callTy call_tuple_of (by rfl) T.f_tuple (by decide +kernel) (pa_cons (pe_lc (own := [("tile", 1)]) (g := gName 1) (tt := tYes) rfl sc.nd (pi_tup (pv 0)) (blkOk_by (N := ["row", "tile"]) (sc := defScope s_next_floor) (by decide +kernel)) (fun _ _ _ _ _ => pg_name (i := 1) sc.nd rfl (Or.inl rfl)) (fun _ _ _ _ _ => pts_nil) (fun _ _ _ _ _ => (pe_ix (ix_tupK K rfl) (pv 1) pe_int (fun _ _ => rfl)))) pa_nil)))), ?_⟩
  have hv : Is H v (.tuple (r.map dT)) := hv
  have hz : r.length ≤ 1000 := hz
  refine s_retP (evd_tupL (evp_n (evn_lcT (fun _ => true) (fun d => match d with | .tuple ds => ds.getD 1 .none | _ => .none) (evp_var (P := pD (.tuple (r.map dT))) rfl hv) (by rw [List.length_map]; omega) fun i d u H1 e1 hd hu => ?_))) fun u H1 e1 p1 => k u H1 e1 ?_
  · obtain ⟨t, rfl⟩ : ∃ t, d = dT t := by
      rw [List.getElem?_map] at hd
      cases q : r[i]? with
      | none => rw [q] at hd; cases hd
      | some t => rw [q] at hd; exact ⟨t, (Option.some.inj hd).symm⟩
    refine turn_name (j := 1) rfl et_yes fun _ => evd_int (ev_intT (ns := [t.e, t.n, t.w, t.s]) (evp_var (P := pD (dI [t.e, t.n, t.w, t.s])) rfl hu) ev_c (j := 1) rfl (by simp))
  · have e2 : ((r.map dT).filter fun _ => true).map (fun d => match d with | .tuple ds => ds.getD 1 .none | _ => .none) = (r.map (·.n)).map PyData.int := by
      rw [List.filter_eq_self.mpr (fun _ _ => rfl), List.map_map, List.map_map]
      rfl
    rw [e2] at p1
    exact p1
end
end SD
end
section
set_option Elab.async false
set_option linter.all false
set_option maxRecDepth 100000
set_option maxHeartbeats 4000000
namespace SD
open PySem L2 Evl SDR
section
variable {P : Program} {w : World} {K : PySem.W.Frag} {mg : Str → Option Value} {base : Heap}
/-! a list or a tuple of ints -/
theorem ev_lenS {σ : L2.St} {H : Hp} {ta : TE} {ns : List Int} (ha : EvP ta σ H (pS ns)) : Ev (tCB (fun xs H Q => ∃ p ys, xs = [.ref p] ∧ (SqL K H p ys ∨ SqT K H p ys) ∧ Q (.int ys.length) H) (tCons ta tNil)) σ H (.int (ns.length : Int)) := fun H1 e Q q =>
  ha H1 e _ fun x H2 e2 p => by
    rcases p with ⟨a, xs, rfl, g1, g2⟩ | p
    · refine ⟨a, xs, rfl, .inl (SqL.of g1), ?_⟩
      rw [g2.len, List.length_map]
      exact q H2 e2
    · obtain ⟨a, rfl, g1⟩ := is_dI.mp p
      refine ⟨a, _, rfl, .inr (SqT.of g1), ?_⟩
      rw [List.length_map]
      exact q H2 e2
theorem ev_ixS {σ : L2.St} {H : Hp} {ta tb : TE} {ns : List Int} {k : Int} {j : Nat} (ha : EvP ta σ H (pS ns)) (hb : Ev tb σ H (.int k)) (e : k = (j : Int)) (h : j < ns.length) :
    Ev (tOp (fun x y H Q => rIxL K x y H Q ∨ rIxT K x y H Q) ta tb) σ H (.int (ns.getD j 0)) := fun H1 e1 Q q =>
  ha H1 e1 _ fun x H2 e2 p => hb H2 (e1.trans e2) _ fun H3 e3 => by
    have at1 : atI (ns.map V.int) k = some (V.int (ns.getD j 0)) := by
      unfold atI
      rw [e, ixN_nat (by rw [List.length_map]; exact h)]
      show (ns.map V.int)[j]? = _
      rw [List.getElem?_map, List.getD_eq_getElem?_getD, List.getElem?_eq_getElem h]
      rfl
    rcases p with ⟨a, xs, rfl, g1, g2⟩ | p
    · rw [iss_ints.mp g2] at g1
      exact .inl ⟨a, _, k, _, rfl, rfl, SqL.of (e3 _ _ g1), at1, q H3 (e2.trans e3)⟩
    · obtain ⟨a, rfl, g1⟩ := is_dI.mp p
      exact .inr ⟨a, _, k, _, rfl, rfl, SqT.of (e3 _ _ g1), at1, q H3 (e2.trans e3)⟩
theorem evd_tupSlS {σ : L2.St} {H : Hp} {te : TE} {tl th : TO} {lo hi : Option Int} {ns : List Int} (h : EvP te σ H (pS ns)) (h1 : EvO tl σ H lo) (h2 : EvO th σ H hi) :
    EvD (tCB (fun xs H Q => ∃ p ys, xs = [.ref p] ∧ ((SqL K H p ys ∧ ∀ l, H l = none → Q (.ref l) (upd H l (.tup ys))) ∨ (SqT K H p ys ∧ Q (.ref p) H))) (tCons (tSl (fun x lo hi H Q => rSlL K x lo hi H Q ∨ rSlA K x lo hi H Q) te tl th) tNil)) σ H (.tuple (cutD (ns.map .int) lo hi)) := fun H1 e Q q =>
  h H1 e _ fun x H2 e2 p => h1 H2 (e.trans e2) _ fun H3 e3 => h2 H3 ((e.trans e2).trans e3) _ fun H4 e4 => by
    rcases p with ⟨a, xs, rfl, g1, g2⟩ | p
    · refine .inl ⟨a, xs, rfl, SqL.of (e4 _ _ (e3 _ _ g1)), fun p hp => ⟨p, _, rfl, .inl ⟨SqL.of upd_same, fun l hl => q _ _ ((((e2.trans e3).trans e4).trans (Ex.new hp)).trans (Ex.new hl)) (.tup upd_same ((iss_cut (g2.m (Tsm.ex (e3.trans e4)))).m (Tsm.ex ((Ex.new hp).trans (Ex.new hl)))))⟩⟩⟩
    · obtain ⟨a, xs, rfl, g1, g2⟩ := is_tup.mp p
      have g3 := g2.m (Tsm.ex (e3.trans e4))
      have g4 := SqT.of (K := K) (e4 _ _ (e3 _ _ g1))
      refine .inr ⟨a, xs, rfl, g4, fun hw => ?_, fun _ p hp => ?_⟩
      · refine ⟨a, xs, rfl, .inr ⟨g4, q _ H4 ((e2.trans e3).trans e4) (.tup (e4 _ _ (e3 _ _ g1)) ?_)⟩⟩
        have ec : cutD (ns.map PyData.int) lo hi = ns.map PyData.int := by
          unfold cutD
          rw [← g2.len, hw.1, hw.2, List.drop_zero, Nat.sub_zero, g2.len, List.take_length]
        rw [ec]
        exact g3
      · exact ⟨p, _, rfl, .inr ⟨SqT.of upd_same, q _ _ (((e2.trans e3).trans e4).trans (Ex.new hp)) (.tup upd_same ((iss_cut g3).m (Tsm.ex (Ex.new hp))))⟩⟩
-- _is_tile: slots 0:value 1:numbers 2:one; level 1; callees 
theorem sc_is_tile : FnScope ["value", "numbers", "one"] ["value"] (defScope s_is_tile) := ⟨rfl, rfl, rfl, by decide +kernel, rfl, by decide +kernel, by decide +kernel⟩
theorem ok_is_tile (T : Txt K mg) : FnOk P w K mg base CX0 1 (He.fAd K ("_is_tile", none)) T.fd_is_tile ["value"] (sp_is_tile) := by
  have sc := sc_is_tile
  refine T.F_is_tile.ok sc_is_tile (fun vs H Q E h => ?_) (fun cdv A outer s H vs Q E hr h => ?_)
  · unfold sp_is_tile at h
    obtain ⟨i, _, p, _⟩ := h
    exact p.len
  have hu := hu_of hr
  obtain ⟨t, hz, p, k⟩ := h
  obtain ⟨v, rfl, hv⟩ := pl1 p
  refine ⟨_, PSs.nox (pss_cons (ps_if (PW.pt (pw_or (pt_not (pt_val (pe_callB call_isi (by rfl) T.f_isinstance (by decide +kernel) (pa_cons (pv 0) (pa_cons (pe_bltn (v := .ty "tuple") (by rfl) T.f_tuple (by decide +kernel) rfl) pa_nil))))) (pw_or1 (pt_cmpR op_ne (pe_callB call_len_seq (by rfl) T.f_len (by decide +kernel) (pa_cons (pv 0) pa_nil)) pe_int (nomark _)))))
       (pss_one (ps_ret pe_bl))
       pss_nil)
      (pss_cons (ps_setLc (i := 1) (own := [("one", 2)]) (g := gName 2) (tt := tYes) rfl sc.nd rfl rfl (sw_true rfl rfl rfl (by decide +kernel)) (pi_tup (pv 0)) (blkOk_by (N := ["value", "numbers", "one"]) (sc := defScope s_is_tile) (by decide +kernel)) (fun _ _ _ _ _ => pg_name (i := 2) sc.nd rfl (Or.inl rfl)) (fun _ _ _ _ _ => pts_nil) (fun _ _ _ _ _ => (pe_and (pe_callB (call_isiK K rfl) (by rfl) T.f_isinstance (by decide +kernel) (pa_cons (pv 2) (pa_cons (pe_bltn (v := .ty "int") (by rfl) T.f_int (by decide +kernel) rfl) pa_nil))) (pe_one (pe_not (pe_callB (call_isiK K rfl) (by rfl) T.f_isinstance (by decide +kernel) (pa_cons (pv 2) (pa_cons (pe_bltn (v := .ty "bool") (by rfl) T.f_bool (by decide +kernel) rfl) pa_nil))))))))
      (pss_one (ps_ret (pe_and (pe_callB (cr_all rfl) (by rfl) T.f_all (by decide +kernel) (pa_cons (pv 1) pa_nil)) (pe_and (pe_cmpR op_ge (pe_callB (call_minT rfl (hq_of hr (by decide))) (by rfl) T.f_min (by decide +kernel) (pa_cons (pv 0) pa_nil)) pe_int (nomark _)) (pe_one (pe_cmpR op_le (pe_callB (call_maxT rfl (hq_of hr (by decide))) (by rfl) T.f_max (by decide +kernel) (pa_cons (pv 0) pa_nil)) (pe_glob (v := .int 999) rfl T.i_MOST_COLOUR ⟨_, rfl⟩) (nomark _))))))))), ?_⟩
  have hv : Is H v (dI [t.e, t.n, t.w, t.s]) := hv
  obtain ⟨⟨e0, e1⟩, ⟨n0, n1⟩, ⟨w0, w1⟩, s0, s1⟩ := hz
  refine q_when (b := false) (et_is (et_or (et_not (et_B (ev_isTup (evd_v rfl hv)))) fun _ => et_test (ev_op (ev_lenT (evd_v rfl hv)) ev_c (rv_ne rfl))) (by simp)) (fun z => nomatch z) fun _ H1 e1 => ?_
  refine q_asgN (evn_lcT (fun _ => true) (fun _ => .bool true) (evd_v rfl (hv.m (Tsm.ex e1))) (by simp) fun i d u H2 e2 hd hu => ?_) fun pn xs H2 hpn e2 hl hx => ?_
  · rw [List.getElem?_map] at hd
    cases q : [t.e, t.n, t.w, t.s][i]? with
    | none => rw [q] at hd; cases hd
    | some z =>
      rw [q] at hd
      obtain rfl : PyData.int z = d := Option.some.inj hd
      have hu := is_int.mp hu
      subst hu
      exact turn_name (j := 2) rfl et_yes fun _ => evd_bool (ev_is (ev_andV (ev_isInt (ev_var rfl)) fun _ => ev_notV (ev_isBool0 (ev_var rfl))) rfl)
  · have h2 := hv.m (Tsm.ex (e1.trans e2))
    refine s_retP (P := pB true) (evp (ev_is (ev_andV (ev_all (bs := [true, true, true, true]) (evl_v rfl ⟨pn, xs, rfl, hl, hx⟩)) fun _ => ev_andV (ev_best (x := .bl true) (evd_v rfl h2) (by simp) ?_) fun _ => ev_best (x := .bl true) (evd_v rfl h2) (by simp) ?_) rfl)) fun v H3 e3 p3 => k v H3 ((e1.trans e2).trans e3) p3
    · intro m hm
      have hm : m = t.e ∨ m = t.n ∨ m = t.w ∨ m = t.s := by simpa using hm
      rw [decide_eq_true (by omega)]
    · intro m hm
      have hm : m = t.e ∨ m = t.n ∨ m = t.w ∨ m = t.s := by simpa using hm
      rw [decide_eq_true (by omega)]
-- Tiles.fitting: slots 0:self 1:west 2:south; level 1; callees 
theorem sc_Tiles_fitting : FnScope ["self", "west", "south"] ["self", "west", "south"] (defScope s_Tiles_fitting) := ⟨rfl, rfl, rfl, by decide +kernel, rfl, by decide +kernel, by decide +kernel⟩
theorem ok_Tiles_fitting (T : Txt K mg) : FnOk P w K mg base CX0 1 (He.fAd K ("Tiles", some "fitting")) T.fd_Tiles_fitting ["self", "west", "south"] (sp_Tiles_fitting K) := by
  have sc := sc_Tiles_fitting
  refine T.F_Tiles_fitting.ok sc_Tiles_fitting (fun vs H Q E h => ?_) (fun cdv A outer s H vs Q E hr h => ?_)
  · unfold sp_Tiles_fitting at h
    obtain ⟨i, _, p, _⟩ := h
    exact p.len
  have hu := hu_of hr
  obtain ⟨⟨ts, a, b⟩, _, p, k⟩ := h
  obtain ⟨v, _, _, rfl, hv, rfl, rfl⟩ := pl3 p
  refine ⟨_, PSs.nox (pss_one (ps_ret (pe_dget2 hu (pe_fld (pv 0) rfl) (pe_tup (pa_cons (pv 1) (pa_cons (pv 2) pa_nil))) (pe_lst pa_nil) ⟨by rfl, by rfl, by rfl, by rfl⟩))), ?_⟩
  obtain ⟨q, dx, t, xs, d, kvs, rfl, h1, h2, h3, h4, h5⟩ := hv
  refine s_retP (P := pL ((fit ts a b).map dT)) ?_ k
  refine fun H1 e1 Q q => (ev_fld (ev_var rfl) h1 T.c_Tiles T.n_Tiles_by_sides (f2_2 _ _ _ _)) H1 e1 _ fun H2 e2 => ⟨d, rfl, .inr ⟨kvs, .inl (e2 _ _ (e1 _ _ h4))⟩, ?_⟩
  refine (eu_tup (ea_cons (ev_var rfl) (ea_cons (ev_var rfl) ea_nil)) (by simp)) H2 (e1.trans e2) _ fun pt H3 hpt e3 g3 => (evn_lst evds_nil (by simp)) H3 ((e1.trans e2).trans e3) _ fun pl zs H4 hpl e4 g4 g5 => ⟨_, DGet.t (k := [Sum.inl a, Sum.inl b]) (e4 _ _ (e3 _ _ (e2 _ _ (e1 _ _ h4)))) (e4 _ _ g3), ?_⟩
  have eH : Ex H1 H4 := (e2.trans e3).trans e4
  rcases h5 a b with ⟨g6, g7⟩ | ⟨u, g6, g7⟩
  · rw [g6]
    refine q _ H4 eH ?_
    show pL ((fit ts a b).map dT) _ H4
    rw [g7]
    exact ⟨pl, zs, rfl, g4, g5⟩
  · rw [g6]
    exact q _ H4 eH (Mo.mo _ _ _ (e1.trans eH) g7)
-- Strip.__init__: slots 0:self 1:tiles; level 1; callees 
theorem sc_Strip_init : FnScope ["self", "tiles"] ["self", "tiles"] (defScope s_Strip_init) := ⟨rfl, rfl, rfl, by decide +kernel, rfl, by decide +kernel, by decide +kernel⟩
theorem ok_Strip_init (T : Txt K mg) : FnOk P w K mg base CX0 1 (He.fAd K ("Strip", some "__init__")) T.fd_Strip_init ["self", "tiles"] (sp_Strip_init K) := by
  have sc := sc_Strip_init
  refine T.F_Strip_init.ok sc_Strip_init (fun vs H Q E h => ?_) (fun cdv A outer s H vs Q E hr h => ?_)
  · unfold sp_Strip_init at h
    obtain ⟨i, p, dx, ws, H0, e, _, _, _, _, q, _⟩ := h
    rw [e]
    exact congrArg (· + 1) q.len
  have hu := hu_of hr
  obtain ⟨ts, p, dx, ws, H0, rfl, hp, hp0, e0, hz, pp, k⟩ := h
  obtain ⟨v, rfl, hv0⟩ := pl1 pp
  refine ⟨_, PSs.nox (pss_cons (ps_if (pt_cmpR (op_notInDT (hq_of hr (by decide))) (pe_tup (pa_cons pe_int (pa_cons pe_int (pa_cons pe_int (pa_cons pe_int pa_nil))))) (pe_fld (pv 1) rfl) (by rfl))
       (pss_one (ps_never))
       pss_nil)
      (pss_one (ps_fld (pv 0) (pv 1) rfl))), ?_⟩
  have hv : pTiles K ts v H := Mo.mo _ _ _ e0 hv0
  refine q_when (b := false) (et_test (ev_is (ev_notInD (ds := ts.map dT) (evd_tup (evds_cons (evd_int ev_c) (evds_cons (evd_int ev_c) (evds_cons (evd_int ev_c) (evds_cons (evd_int ev_c) evds_nil)))) (by simp)) (evd_tiles T (ev_var rfl) hv) (sh_dI [0, 0, 0, 0]) (sh_dTs ts)) ?_)) (fun z => nomatch z) fun _ H1 e1 => ?_
  · have : ((ts.map dT).any fun z => PyData.eqv z (.tuple [.int 0, .int 0, .int 0, .int 0])) = true := List.any_eq_true.mpr ⟨dT ⟨0, 0, 0, 0⟩, List.mem_map.mpr ⟨_, hz, rfl⟩, SeqAt.eqv_refl _ (SeqAt.canLay_of_shaped (sh_dI [0, 0, 0, 0]))⟩
    rw [this]
    rfl
  · refine s_fldP (P := pV v) (evp (ev_var rfl)) (ev_var rfl) (e1 _ _ hp) T.c_Strip T.n_Strip_tiles (by simp) fun y H2 e2 hy hp2 => ?_
    obtain rfl : y = v := hy
    have e3 := Ex.mut (o := .ins (cStrip K) dx (f1 "tiles" y)) ((e0.trans e1).trans e2) hp0
    exact k _ e3 ⟨p, dx, y, rfl, upd_same, Mo.mo _ _ _ e3 hv0⟩
-- TileStair.ending: slots 0:self 1:configuration; level 1; callees 
theorem sc_TileStair_ending : FnScope ["self", "configuration"] ["self", "configuration"] (defScope s_TileStair_ending) := ⟨rfl, rfl, rfl, by decide +kernel, rfl, by decide +kernel, by decide +kernel⟩
theorem ok_TileStair_ending (T : Txt K mg) : FnOk P w K mg base CX0 1 (He.fAd K ("TileStair", some "ending")) T.fd_TileStair_ending ["self", "configuration"] (sp_TileStair_ending) := by
  have sc := sc_TileStair_ending
  refine T.F_TileStair_ending.ok sc_TileStair_ending (fun vs H Q E h => ?_) (fun cdv A outer s H vs Q E hr h => ?_)
  · unfold sp_TileStair_ending at h
    obtain ⟨i, _, p, _⟩ := h
    exact p.len
  obtain ⟨_, _, p, k⟩ := h
  refine ⟨_, PSs.nox (pss_one (ps_ret pe_int)), ?_⟩
  exact s_retP (P := pI 0) (evp ev_c) k
-- _law_cell: slots 0:_law_script 1:_law_k; level 1; callees 
theorem sc_law_cell : FnScope ["_law_script", "_law_k"] ["_law_script", "_law_k"] (defScope s_law_cell) := ⟨rfl, rfl, rfl, by decide +kernel, rfl, by decide +kernel, by decide +kernel⟩
theorem ok_law_cell (T : Txt K mg) : FnOk P w K mg base CX0 1 (He.fAd K ("_law_cell", none)) T.fd_law_cell ["_law_script", "_law_k"] (sp_law_cell K) := by
  have sc := sc_law_cell
  refine T.F_law_cell.ok sc_law_cell (fun vs H Q E h => ?_) (fun cdv A outer s H vs Q E hr h => ?_)
  · unfold sp_law_cell at h
    obtain ⟨i, _, p, _⟩ := h
    exact p.len
  obtain ⟨⟨ns, j⟩, hj, p, k⟩ := h
  obtain ⟨_, _, rfl, ⟨a, rfl, ha⟩, rfl⟩ := pl2 p
  refine ⟨_, PSs.nox (pss_cons (ps_if (pt_cmpR op_lt (pv 1) (pe_callB call_len_seq (by rfl) T.f_len (by decide +kernel) (pa_cons (pv 0) pa_nil)) (nomark _))
       (pss_one (ps_ret (pe_ix ix_list (pv 0) (pv 1) (fun _ _ => rfl))))
       pss_nil)
      (pss_one (ps_ret pe_int))), ?_⟩
  have hj : 0 ≤ j := hj
  have ha : SqL K H a (ns.map V.int) := ha
  refine q_when (b := decide (j < (ns.length : Int))) (et_test (ev_is (ev_I (ev_var rfl) (ev_len (ev_var rfl) ha)) (by rw [List.length_map]))) (fun hb H1 e1 => ?_) fun hb H1 e1 => ?_
  · have hlt := of_decide_eq_true hb
    have hlt' : j.toNat < ns.length := by omega
    refine s_ret (ev_op (ev_var rfl) (ev_var rfl) (rv_ixL (v := .int (ns.getD j.toNat 0)) (ex_l e1 ha) ?_)) fun H2 e2 => k _ H2 (e1.trans e2) ⟨_, rfl⟩
    have ej : j = ((j.toNat : Nat) : Int) := by omega
    unfold atI
    rw [ej, ixN_nat (by rw [List.length_map]; omega)]
    show (ns.map V.int)[j.toNat]? = _
    rw [List.getElem?_map, List.getD_eq_getElem?_getD, Int.toNat_natCast, List.getElem?_eq_getElem hlt']
    rfl
  · exact s_ret ev_c fun H2 e2 => k _ H2 (e1.trans e2) ⟨0, rfl⟩
-- _law_mixed: slots 0:_law_cell_here 1:_law_k 2:_law_first 3:_law_second; level 1; callees 
theorem sc_law_mixed : FnScope ["_law_cell_here", "_law_k", "_law_first", "_law_second"] ["_law_cell_here", "_law_k"] (defScope s_law_mixed) := ⟨rfl, rfl, rfl, by decide +kernel, rfl, by decide +kernel, by decide +kernel⟩
theorem ok_law_mixed (T : Txt K mg) : FnOk P w K mg base CX0 1 (He.fAd K ("_law_mixed", none)) T.fd_law_mixed ["_law_cell_here", "_law_k"] (sp_law_mixed) := by
  have sc := sc_law_mixed
  refine T.F_law_mixed.ok sc_law_mixed (fun vs H Q E h => ?_) (fun cdv A outer s H vs Q E hr h => ?_)
  · unfold sp_law_mixed at h
    obtain ⟨i, _, p, _⟩ := h
    exact p.len
  obtain ⟨⟨a, b⟩, _, p, k⟩ := h
  obtain ⟨_, _, rfl, rfl, rfl⟩ := pl2 p
  refine ⟨_, PSs.nox (pss_cons (ps_set (i := 2) sc.nd rfl (Or.inl rfl) (pe_op op_mod (pe_callTy call_int1 (by rfl) T.f_int (by decide +kernel) (pa_cons (pe_op op_add (pe_op op_add (pe_op op_mul (pe_callTy call_int1 (by rfl) T.f_int (by decide +kernel) (pa_cons (pv 0) pa_nil)) pe_int) (pe_op op_mul (pv 1) pe_int)) pe_int) pa_nil)) pe_int))
      (pss_cons (ps_set (i := 3) sc.nd rfl (Or.inl rfl) (pe_op op_mod (pe_callTy call_int1 (by rfl) T.f_int (by decide +kernel) (pa_cons (pe_op op_add (pe_op op_add (pe_op op_mul (pv 2) pe_int) (pe_op op_mul (pe_op op_add (pv 1) pe_int) pe_int)) pe_int) pa_nil)) pe_int))
      (pss_one (ps_ret (pe_op op_fdiv (pv 3) pe_int))))), ?_⟩
  refine q_asgI (ev_mod (ev_int1 (ev_I (ev_I (ev_mul (ev_int1 (ev_var rfl)) ev_c (cm_r (by omega))) (ev_mul (ev_var rfl) ev_c (cm_r (by omega)))) ev_c)) ev_c (by omega)) fun H1 e1 => ?_
  refine q_asgI (ev_mod (ev_int1 (ev_I (ev_I (ev_mul (ev_var rfl) ev_c (cm_r (by omega))) (ev_mul (ev_I (ev_var rfl) ev_c) ev_c (cm_r (by omega)))) ev_c)) ev_c (by omega)) fun H2 e2 => ?_
  exact s_ret (ev_div (ev_var rfl) ev_c (by omega)) fun H3 e3 => k _ H3 ((e1.trans e2).trans e3) ⟨_, rfl⟩
-- _law_trim: slots 0:_law_row 1:_law_end 2:_law_k; level 1; callees 
theorem sc_law_trim : FnScope ["_law_row", "_law_end", "_law_k"] ["_law_row"] (defScope s_law_trim) := ⟨rfl, rfl, rfl, by decide +kernel, rfl, by decide +kernel, by decide +kernel⟩
theorem ok_law_trim (T : Txt K mg) : FnOk P w K mg base CX0 1 (He.fAd K ("_law_trim", none)) T.fd_law_trim ["_law_row"] (sp_law_trim) := by
  have sc := sc_law_trim
  refine T.F_law_trim.ok sc_law_trim (fun vs H Q E h => ?_) (fun cdv A outer s H vs Q E hr h => ?_)
  · unfold sp_law_trim at h
    obtain ⟨i, _, p, _⟩ := h
    exact p.len
  obtain ⟨ns, hz, p, k⟩ := h
  obtain ⟨v, rfl, hv⟩ := pl1 p
  refine ⟨_, PSs.nox (pss_cons (ps_set (i := 1) sc.nd rfl (Or.inl rfl) (pe_callB call_len_seq (by rfl) T.f_len (by decide +kernel) (pa_cons (pv 0) pa_nil)))
      (pss_cons (ps_for PassesOwn.never rfl (pi_range1 rfl T.f_range (pa_cons (pe_callB call_len_seq (by rfl) T.f_len (by decide +kernel) (pa_cons (pv 0) pa_nil)) pa_nil)) (pg_name (i := 2) sc.nd rfl (Or.inl rfl))
       (pss_one (ps_if (PW.pt (pw_and (pt_cmpR op_gt (pv 1) pe_int (nomark _)) (pw_and1 (pt_cmpR op_eq (pe_ix (IxR.or ix_list ix_tup) (pv 0) (pe_op op_sub (pv 1) pe_int) (fun _ _ => rfl)) pe_int (nomark _)))))
         (pss_one (ps_set (i := 1) sc.nd rfl (Or.inl rfl) (pe_op op_sub (pv 1) pe_int)))
         pss_nil)))
      (pss_one (ps_ret (pe_callTy call_tuple_of (by rfl) T.f_tuple (by decide +kernel) (pa_cons (pe_slice (SlR.or sl_list sl_tupA) (pv 0) po_none (po_some (pv 1))) pa_nil)))))), ?_⟩
  have hz : ns.length ≤ 1000 := hz
  have hv : pS ns v H := hv
  refine q_asgI (ev_lenS (evp_var rfl hv)) fun H1 e1 => ?_
  refine q_forR1 (ea_cons (ev_lenS (evp_var rfl (Mo.mo _ _ _ e1 hv))) ea_nil) ⟨by omega, by omega⟩ (fun i σ' H' => Ex H H' ∧ ∃ m : Nat, ∃ z, m ≤ ns.length ∧ trimN ns m = trimN ns ns.length ∧ (m + i = ns.length ∨ trimN ns m = m) ∧ σ' = [some v, some (.int (m : Int)), z]) (fun H2 e2 => ⟨e1.trans e2, ns.length, none, Nat.le_refl _, rfl, .inl rfl, rfl⟩) (fun i σ' H' hi ⟨e2, m, z, hm, ht, hd, es⟩ => ?_) fun σ' H' ⟨e2, m, z, hm, ht, hd, es⟩ => ?_
  · subst es
    refine s_when (b := decide ((0 : Int) < (m : Int)) && decide (ns.getD (m - 1) 0 = 0)) (et_and (et_test (ev_I (ev_var rfl) ev_c)) fun hb => et_test (ev_eqI (ev_ixS (j := m - 1) (evp_var rfl (Mo.mo _ _ _ e2 hv)) (ev_I (ev_var rfl) ev_c) ?_ ?_) ev_c)) (fun hb H3 e3 => ?_) fun hb H3 e3 => ?_
    · have := of_decide_eq_true hb
      omega
    · have := of_decide_eq_true hb
      omega
    · rw [Bool.and_eq_true] at hb
      have h1 := of_decide_eq_true hb.1
      have h2 := of_decide_eq_true hb.2
      refine s_asg (ev_I (ev_var rfl) ev_c) fun H4 e4 => ⟨(e2.trans e3).trans e4, m - 1, some (.int (i : Int)), by omega, ?_, ?_, ?_⟩
      · rw [← ht]
        have em : m = (m - 1) + 1 := by omega
        rw [em]
        show _ = if ns.getD (m - 1) 0 = 0 then trimN ns (m - 1) else _
        rw [if_pos h2]
        rfl
      · rcases hd with hd | hd
        · exact .inl (by omega)
        · exfalso
          have em : m = (m - 1) + 1 := by omega
          rw [em] at hd
          have h3 : trimN ns (m - 1 + 1) = trimN ns (m - 1) := by
            show (if ns.getD (m - 1) 0 = 0 then trimN ns (m - 1) else _) = _
            rw [if_pos h2]
          rw [h3] at hd
          have := trimN_le ns (m - 1)
          omega
      · have em : ((m : Int) - 1) = ((m - 1 : Nat) : Int) := by omega
        show [some v, some (V.int ((m : Int) - 1)), some (V.int (i : Int))] = _
        rw [em]
    · refine ⟨e2.trans e3, m, some (.int (i : Int)), hm, ht, .inr ?_, rfl⟩
      cases m with
      | zero => rfl
      | succ m =>
        have : ¬ ns.getD m 0 = 0 := fun h0 => by
          rw [show m + 1 - 1 = m from rfl, decide_eq_true h0, decide_eq_true (by omega)] at hb
          cases hb
        unfold trimN
        rw [if_neg this]
  · subst es
    have hm2 : trimN ns m = m := by
      rcases hd with hd | hd
      · have : m = 0 := by omega
        subst this
        rfl
      · exact hd
    refine s_retP (evd_tupSlS (evp_var rfl (Mo.mo _ _ _ e2 hv)) eo_none (eo_some (ev_var rfl))) fun u H4 e4 p4 => k u H4 (e2.trans e4) ?_
    rw [cut_to (by rw [List.length_map]; exact hm)] at p4
    show Is H4 u (dI (trim ns))
    rw [trim_eq, ← ht, hm2, dI, List.map_take]
    exact p4
-- _law_letter: slots 0:_law_machine 1:_law_mark 2:_law_state; level 1; callees 
theorem sc_law_letter : FnScope ["_law_machine", "_law_mark", "_law_state"] ["_law_machine", "_law_mark", "_law_state"] (defScope s_law_letter) := ⟨rfl, rfl, rfl, by decide +kernel, rfl, by decide +kernel, by decide +kernel⟩
theorem ok_law_letter (T : Txt K mg) : FnOk P w K mg base CX0 1 (He.fAd K ("_law_letter", none)) T.fd_law_letter ["_law_machine", "_law_mark", "_law_state"] (sp_law_letter K) := by
  have sc := sc_law_letter
  refine T.F_law_letter.ok sc_law_letter (fun vs H Q E h => ?_) (fun cdv A outer s H vs Q E hr h => ?_)
  · unfold sp_law_letter at h
    obtain ⟨i, _, p, _⟩ := h
    exact p.len
  obtain ⟨⟨M, a, q⟩, hM, p, k⟩ := h
  obtain ⟨v, _, _, rfl, hv, rfl, rfl⟩ := pl3 p
  refine ⟨_, PSs.nox (pss_one (ps_ret (pe_op op_add (pe_op op_mul (pe_fld (pv 0) rfl) (pe_op op_add (pv 2) pe_int)) (pv 1)))), ?_⟩
  have hM : M.Ok := hM
  refine s_retP (P := pI (M.L a q)) (evp (ev_I (ev_mul (ev_marks T (ev_var rfl) hv) (ev_I (ev_var rfl) ev_c) (cm_l ?_)) (ev_var rfl))) k
  have := hM.m2
  have := hM.m16
  omega
end
end SD
end
section
set_option Elab.async false
set_option linter.all false
set_option maxRecDepth 100000
set_option maxHeartbeats 4000000
namespace SD
open PySem L2 Evl SDR
section
variable {P : Program} {w : World} {K : PySem.W.Frag} {mg : Str → Option Value} {base : Heap}
def nzF (ns : List Int) : PyData → Bool
  | .int z => !decide (ns.getD z.toNat 0 = 0)
  | _ => false
theorem nzF_eq (ns : List Int) : ((upto ((ns.length : Int)).toNat).filter (nzF ns)).map id = (nzs ns ns.length).map fun i : Nat => PyData.int (i : Int) := by
  unfold upto nzs
  rw [List.map_id, List.filter_map, Int.toNat_natCast]
  congr 1
  apply List.filter_congr
  intro i _
  show (!decide (ns.getD ((i : Int)).toNat 0 = 0)) = _
  rw [Int.toNat_natCast]
  by_cases h : ns.getD i 0 = 0
  · rw [decide_eq_true h, decide_eq_false (fun z => z h)]; rfl
  · rw [decide_eq_false h, decide_eq_true h]; rfl
def heF (m : Int) (ns : List Int) : PyData → Bool
  | .int z => decide (m ≤ ns.getD z.toNat 0)
  | _ => false
theorem heF_eq (m : Int) (ns : List Int) : ((upto ((ns.length : Int)).toNat).filter (heF m ns)).map id = (heads m ns ns.length).map fun i : Nat => PyData.int (i : Int) := by
  unfold upto heads
  rw [List.map_id, List.filter_map, Int.toNat_natCast]
  congr 1
-- _law_cut: slots 0:_law_row 1:_law_some 2:_law_at; level 1; callees 
theorem sc_law_cut : FnScope ["_law_row", "_law_some", "_law_at"] ["_law_row"] (defScope s_law_cut) := ⟨rfl, rfl, rfl, by decide +kernel, rfl, by decide +kernel, by decide +kernel⟩
theorem ok_law_cut (T : Txt K mg) : FnOk P w K mg base CX0 1 (He.fAd K ("_law_cut", none)) T.fd_law_cut ["_law_row"] (sp_law_cut) := by
  have sc := sc_law_cut
  refine T.F_law_cut.ok sc_law_cut (fun vs H Q E h => ?_) (fun cdv A outer s H vs Q E hr h => ?_)
  · unfold sp_law_cut at h
    obtain ⟨i, _, p, _⟩ := h
    exact p.len
  obtain ⟨ns, hz, p, k⟩ := h
  obtain ⟨v, rfl, hv⟩ := pl1 p
  refine ⟨_, PSs.nox (pss_cons (ps_setLc (i := 1) (own := [("_law_at", 2)]) (g := gName 2) rfl sc.nd rfl rfl (sw_true rfl rfl rfl (by decide +kernel)) (pi_range1 rfl T.f_range (pa_cons (pe_callB call_len_seq (by rfl) T.f_len (by decide +kernel) (pa_cons (pv 0) pa_nil)) pa_nil)) (blkOk_by (N := ["_law_row", "_law_some", "_law_at"]) (sc := defScope s_law_cut) (by decide +kernel)) (fun _ _ _ _ _ => pg_name (i := 2) sc.nd rfl (Or.inl rfl)) (fun _ _ _ _ _ => pts_one (pt_cmpR op_ne (pe_ix (IxR.or (ix_listK K rfl) (ix_tupK K rfl)) (pv 0) (pv 2) (fun _ _ => rfl)) pe_int (nomark _))) (fun _ _ _ _ _ => (pv 2)))
      (pss_cons (ps_if (pt_cmpR op_eq (pe_callB call_len_seq (by rfl) T.f_len (by decide +kernel) (pa_cons (pv 1) pa_nil)) pe_int (nomark _))
       (pss_one (ps_ret (pe_tup pa_nil)))
       pss_nil)
      (pss_one (ps_ret (pe_callTy call_tuple_of (by rfl) T.f_tuple (by decide +kernel) (pa_cons (pe_slice (SlR.or sl_list sl_tupA) (pv 0) (po_some (pe_ix ix_list (pv 1) pe_int (fun _ _ => rfl))) (po_some (pe_op op_add (pe_ix ix_list (pv 1) (pe_un un_neg pe_int) (fun _ _ => rfl)) pe_int))) pa_nil)))))), ?_⟩
  have hz : ns.length ≤ 1000 := hz
  have hv : pS ns v H := hv
  refine q_asgN (evn_lcR (n := (ns.length : Int)) (nzF ns) id (ea_cons (ev_lenS (evp_var rfl hv)) ea_nil) (by omega) (by omega) fun i H1 e1 hi => turn_name (j := 2) rfl (et_test (ev_neI (ev_ixS (j := i) (evp_var rfl (Mo.mo _ _ _ e1 hv)) (ev_var rfl) rfl (by omega)) ev_c)) fun _ => evd_int (ev_var rfl)) fun pn xs H1 hpn e1 hl hx => ?_
  rw [nzF_eq] at hx
  have hv1 : pS ns v H1 := Mo.mo _ _ _ e1 hv
  have hlen := hx.len
  rw [List.length_map] at hlen
  cases hn : nzs ns ns.length with
  | nil =>
    rw [hn] at hx hlen
    refine q_when (b := true) (et_test (ev_is (ev_eqI (ev_lenL (evl_v rfl ⟨pn, xs, rfl, hl, hx⟩)) ev_c) rfl)) (fun _ H2 e2 => ?_) fun z => nomatch z
    refine s_retP (P := pD (dI [])) (evd_tup evds_nil (by simp)) fun u H3 e3 p3 => k u H3 ((e1.trans e2).trans e3) ?_
    show Is H3 u (dI (woe ns))
    rw [woe_nil hn]
    exact p3
  | cons a B =>
    obtain ⟨A, l, h2⟩ : ∃ A l, nzs ns ns.length = A ++ [l] := by
      rcases nzs_last ns ns.length with ⟨h3, _⟩ | ⟨A, l, h3, _⟩
      · rw [hn] at h3; cases h3
      · exact ⟨A, l, h3⟩
    obtain ⟨c1, c2, c3⟩ := woe_cut hn h2
    have hx1 := hx
    rw [hn, List.map_cons] at hx1
    have hx2 := hx
    rw [h2, List.map_append] at hx2
    refine q_when (b := false) (et_test (ev_is (ev_eqI (ev_lenL (evl_v rfl ⟨pn, xs, rfl, hl, hx1⟩)) ev_c) ?_)) (fun z => nomatch z) fun _ H2 e2 => ?_
    · rw [decide_eq_false (by simp; omega)]
    · have hx1 := hx1.m (Tsm.ex e2)
      have hx2 := hx2.m (Tsm.ex e2)
      have hl2 := e2 _ _ hl
      refine s_retP (evd_tupSlS (evp_var rfl (Mo.mo _ _ _ e2 hv1)) (eo_some (evi (evd_ixL (evl_v rfl ⟨pn, xs, rfl, hl2, hx1⟩) ev_c ⟨0, by unfold ixN; simp, rfl⟩))) (eo_some (ev_I (evi (evd_lastL (evl_v rfl ⟨pn, xs, rfl, hl2, hx2⟩))) ev_c))) fun u H4 e4 p4 => k u H4 ((e1.trans e2).trans e4) ?_
      have e5 : (((l : Nat) : Int) + 1) = ((l + 1 : Nat) : Int) := by omega
      rw [e5, cut_mid (by rw [List.length_map]; omega) (by rw [List.length_map]; omega)] at p4
      show Is H4 u (dI (woe ns))
      rw [c1, dI, List.map_take, List.map_drop]
      exact p4
-- Tape._is_row: slots 0:self 1:row; level 2; callees is_integer
theorem sc_Tape_is_row : FnScope ["self", "row"] ["self", "row"] (defScope s_Tape_is_row) := ⟨rfl, rfl, rfl, by decide +kernel, rfl, by decide +kernel, by decide +kernel⟩
theorem ok_Tape_is_row (T : Txt K mg) : FnOk P w K mg base CX0 2 (He.fAd K ("Tape", some "_is_row")) T.fd_Tape_is_row ["self", "row"] (sp_Tape_is_row K) := by
  have G_is_integer := ok_is_integer (P := P) (w := w) (base := base) T
  have b_is_integer : Binds K T.fd_is_integer ["value", "least", "most"] [] := T.F_is_integer.bindsN fun _ _ _ _ _ _ us hl => match us, hl with | [_, _, _], _ => rfl
  have sc := sc_Tape_is_row
  refine T.F_Tape_is_row.ok sc_Tape_is_row (fun vs H Q E h => ?_) (fun cdv A outer s H vs Q E hr h => ?_)
  · unfold sp_Tape_is_row at h
    obtain ⟨i, _, p, _⟩ := h
    exact p.len
  obtain ⟨⟨mm, st, wr, mv, af⟩, hz, p, k⟩ := h
  obtain ⟨_, v, rfl, ⟨pp, dx, fs, rfl, h1, h2, h3⟩, hv⟩ := pl2 p
  refine ⟨_, PSs.nox (pss_cons (ps_if (PW.pt (pw_or (pt_not (pt_val (pe_callB call_isi (by rfl) T.f_isinstance (by decide +kernel) (pa_cons (pv 1) (pa_cons (pe_bltn (v := .ty "tuple") (by rfl) T.f_tuple (by decide +kernel) rfl) pa_nil))))) (pw_or1 (pt_cmpR op_ne (pe_callB call_len_seq (by rfl) T.f_len (by decide +kernel) (pa_cons (pv 1) pa_nil)) pe_int (nomark _)))))
       (pss_one (ps_ret pe_bl))
       pss_nil)
      (pss_cons (ps_if (PW.pt (pw_or (pt_not (pt_val (pe_call G_is_integer (hr.mono (by decide)) rfl T.g_is_integer T.F_is_integer.kp b_is_integer .nil pass0 (pa_cons (pe_ix ix_tup (pv 1) pe_int (fun _ _ => rfl)) (pa_cons (pe_un un_neg pe_int) (pa_cons pe_int pa_nil)))))) (pw_or1 (pt_cmpR op_eq (pe_ix ix_tup (pv 1) pe_int (fun _ _ => rfl)) pe_int (nomark _)))))
       (pss_one (ps_ret pe_bl))
       pss_nil)
      (pss_one (ps_ret (pe_and (pe_call G_is_integer (hr.mono (by decide)) rfl T.g_is_integer T.F_is_integer.kp b_is_integer .nil pass0 (pa_cons (pe_ix ix_tup (pv 1) pe_int (fun _ _ => rfl)) (pa_cons pe_int (pa_cons (pe_op op_sub (pe_fld (pv 0) rfl) pe_int) pa_nil)))) (pe_one (pe_call G_is_integer (hr.mono (by decide)) rfl T.g_is_integer T.F_is_integer.kp b_is_integer .nil pass0 (pa_cons (pe_ix ix_tup (pv 1) pe_int (fun _ _ => rfl)) (pa_cons pe_int (pa_cons (pe_op op_sub (pe_fld (pv 0) rfl) pe_int) pa_nil)))))))))), ?_⟩
  have hv : Is H v (dI [wr, mv, af]) := hv
  obtain ⟨z1, z2, z3, z4, z5⟩ := hz wr mv af rfl
  refine q_when (b := false) (et_is (et_or (et_not (et_B (ev_isTup (evd_v rfl hv)))) fun _ => et_test (ev_op (ev_lenT (evd_v rfl hv)) ev_c (rv_ne rfl))) (by simp)) (fun z => nomatch z) fun _ H1 e1 => ?_
  have hv1 := hv.m (Tsm.ex e1)
  refine q_when (b := false) (et_is (et_or (et_not (et_B (ev_isin (ev_intT (j := 1) (evd_v rfl hv1) ev_c rfl (by simp)) (ev_un ev_c ru_neg) ev_c))) fun _ => et_test (ev_eqI (ev_intT (j := 1) (evd_v rfl hv1) ev_c rfl (by simp)) ev_c)) ?_) (fun z => nomatch z) fun _ H2 e2 => ?_
  · have h4 : ([wr, mv, af] : List Int).getD 1 0 = mv := rfl
    rw [h4, decide_eq_true (by omega), decide_eq_true (by omega), decide_eq_false (by omega)]
    rfl
  · have hv2 := hv1.m (Tsm.ex e2)
    have ho := e2 _ _ (e1 _ _ h1)
    refine s_retP (P := pB true) (evp (ev_is (ev_andV (ev_isin (ev_intT (j := 0) (evd_v rfl hv2) ev_c rfl (by simp)) ev_c (ev_I (ev_fld (ev_var rfl) ho T.c_Tape T.n_Tape_marks h2) ev_c)) fun _ => ev_isin (ev_intT (j := 2) (evd_v rfl hv2) ev_c rfl (by simp)) ev_c (ev_I (ev_fld (ev_var rfl) ho T.c_Tape T.n_Tape_states h3) ev_c)) ?_)) fun u H3 e3 p3 => k u H3 ((e1.trans e2).trans e3) p3
    have h4 : ([wr, mv, af] : List Int).getD 0 0 = wr := rfl
    have h5 : ([wr, mv, af] : List Int).getD 2 0 = af := rfl
    rw [h4, h5, decide_eq_true (by omega), decide_eq_true (by omega), decide_eq_true (by omega), decide_eq_true (by omega)]
    rfl
-- Tape.row: slots 0:self 1:state 2:mark; level 2; callees is_integer
theorem sc_Tape_row : FnScope ["self", "state", "mark"] ["self", "state", "mark"] (defScope s_Tape_row) := ⟨rfl, rfl, rfl, by decide +kernel, rfl, by decide +kernel, by decide +kernel⟩
theorem ok_Tape_row (T : Txt K mg) : FnOk P w K mg base CX0 2 (He.fAd K ("Tape", some "row")) T.fd_Tape_row ["self", "state", "mark"] (sp_Tape_row K) := by
  have G_is_integer := ok_is_integer (P := P) (w := w) (base := base) T
  have b_is_integer : Binds K T.fd_is_integer ["value", "least", "most"] [] := T.F_is_integer.bindsN fun _ _ _ _ _ _ us hl => match us, hl with | [_, _, _], _ => rfl
  have sc := sc_Tape_row
  refine T.F_Tape_row.ok sc_Tape_row (fun vs H Q E h => ?_) (fun cdv A outer s H vs Q E hr h => ?_)
  · unfold sp_Tape_row at h
    obtain ⟨i, _, p, _⟩ := h
    exact p.len
  obtain ⟨⟨M, qq, aa⟩, ⟨hM, q0, qs, a0, am⟩, p, k⟩ := h
  dsimp only at p
  obtain ⟨v, _, _, rfl, hv, rfl, rfl⟩ := pl3 p
  refine ⟨_, PSs.nox (pss_cons (ps_if (PW.pt (pw_or (pt_not (pt_val (pe_call G_is_integer (hr.mono (by decide)) rfl T.g_is_integer T.F_is_integer.kp b_is_integer .nil pass0 (pa_cons (pv 1) (pa_cons pe_int (pa_cons (pe_op op_sub (pe_fld (pv 0) rfl) pe_int) pa_nil)))))) (pw_or1 (pt_not (pt_val (pe_call G_is_integer (hr.mono (by decide)) rfl T.g_is_integer T.F_is_integer.kp b_is_integer .nil pass0 (pa_cons (pv 2) (pa_cons pe_int (pa_cons (pe_op op_sub (pe_fld (pv 0) rfl) pe_int) pa_nil)))))))))
       (pss_one (ps_never))
       pss_nil)
      (pss_one (ps_ret (pe_ix ix_list (pe_fld (pv 0) rfl) (pe_op op_add (pe_op op_mul (pv 1) (pe_fld (pv 0) rfl)) (pv 2)) (fun _ _ => rfl))))), ?_⟩
  have hM : M.Ok := hM
  have q0 : 0 ≤ qq := q0
  have qs : qq < M.s := qs
  have a0 : 0 ≤ aa := a0
  have am : aa < M.m := am
  have hv : pTape K M v H := hv
  refine q_when (b := false) (et_is (et_or (et_not (et_B (ev_isin (ev_var rfl) ev_c (ev_I (ev_states T (ev_var rfl) hv) ev_c)))) fun _ => et_not (et_B (ev_isin (ev_var rfl) ev_c (ev_I (ev_marks T (ev_var rfl) hv) ev_c)))) ?_) (fun z => nomatch z) fun _ H1 e1 => ?_
  · rw [decide_eq_true (by omega), decide_eq_true (by omega), decide_eq_true (by omega), decide_eq_true (by omega)]
    rfl
  · have hv1 : pTape K M v H1 := Mo.mo _ _ _ e1 hv
    have hs20 := hM.s20
    refine s_retP (P := pD (dRow (M.row qq aa))) (evd_ixL (evl_rows T (ev_var rfl) hv1) (ev_I (ev_mul (ev_var rfl) (ev_marks T (ev_var rfl) hv1) (cm_l (by omega))) (ev_var rfl)) (ix_of (rc_bound hM q0 qs a0 am).1 ?_)) fun u H3 e3 p3 => k u H3 (e1.trans e3) p3
    rw [List.getElem?_map, row_get hM q0 qs a0 am]
    rfl
-- line_of: slots 0:marks 1:configuration 2:state 3:left 4:mark 5:right; level 2; callees letter_of, without_ends
theorem sc_line_of : FnScope ["marks", "configuration", "state", "left", "mark", "right"] ["marks", "configuration"] (defScope s_line_of) := ⟨rfl, rfl, rfl, by decide +kernel, rfl, by decide +kernel, by decide +kernel⟩
theorem ok_line_of (T : Txt K mg) : FnOk P w K mg base CX0 2 (He.fAd K ("line_of", none)) T.fd_line_of ["marks", "configuration"] (sp_line_of) := by
  have G_letter_of := ok_letter_of (P := P) (w := w) (base := base) T
  have b_letter_of : Binds K T.fd_letter_of ["marks", "mark", "state"] [] := T.F_letter_of.bindsN fun _ _ _ _ _ _ us hl => match us, hl with | [_, _, _], _ => rfl
  have G_without_ends := ok_without_ends (P := P) (w := w) (base := base) T
  have b_without_ends : Binds K T.fd_without_ends ["row"] [] := T.F_without_ends.bindsN fun _ _ _ _ _ _ us hl => match us, hl with | [_], _ => rfl
  have sc := sc_line_of
  refine T.F_line_of.ok sc_line_of (fun vs H Q E h => ?_) (fun cdv A outer s H vs Q E hr h => ?_)
  · unfold sp_line_of at h
    obtain ⟨i, _, p, _⟩ := h
    exact p.len
  obtain ⟨⟨M, c⟩, ⟨hM, hc, hl⟩, p, k⟩ := h
  obtain ⟨_, v, rfl, rfl, hv⟩ := pl2 p
  refine ⟨_, PSs.nox (pss_cons (ps_asg (pv 1) (pg_tup rfl (pgs_cons (pg_name (i := 2) sc.nd rfl (Or.inl rfl)) (pgs_cons (pg_name (i := 3) sc.nd rfl (Or.inl rfl)) (pgs_cons (pg_name (i := 4) sc.nd rfl (Or.inl rfl)) (pgs_cons (pg_name (i := 5) sc.nd rfl (Or.inl rfl)) pgs_nil))))))
      (pss_one (ps_ret (pe_call G_without_ends (hr.mono (by decide)) rfl T.g_without_ends T.F_without_ends.kp b_without_ends .nil pass0 (pa_cons (pe_op op_catA (pe_op op_catA (pe_revT (pv 3)) (pe_tup (pa_cons (pe_call G_letter_of (hr.mono (by decide)) rfl T.g_letter_of T.F_letter_of.kp b_letter_of .nil pass0 (pa_cons (pv 0) (pa_cons (pv 4) (pa_cons (pv 2) pa_nil)))) pa_nil))) (pv 5)) pa_nil))))), ?_⟩
  have hM : M.Ok := hM
  have hc : c.Ok M := hc
  have hl : c.l.length + c.r.length ≤ 400 := hl
  have hv : Is H v (dCf c) := hv
  refine q_cf (c := c) (evd_v rfl hv) fun vl vr H1 e1 pl pr => ?_
  have m2 := hM.m2
  have m16 := hM.m16
  have hL : (M.line c).length ≤ 1000 := by rw [line_len]; omega
  refine s_retP (evp_call (M.line c) hL (evps_cons (P := pD (dI (M.line c))) (evd_eq (evd_cat (evd_cat (evd_rev (evd_v rfl pl)) (evd_tup (evds_cons (evd_int (ev_of (evp_call (M.m, c.a, c.q) ⟨by omega, by omega⟩ (evps_cons (evp (ev_var rfl)) (evps_cons (evp (ev_var rfl)) (evps_cons (evp (ev_var rfl)) evps_nil)))))) evds_nil) (by simp)) ?_) (evd_v rfl pr) ?_) ?_) evps_nil)) fun u H2 e2 p2 => k u H2 (e1.trans e2) ?_
  · simp
    omega
  · simp
    omega
  · show PyData.tuple _ = dI (M.line c)
    unfold Mach.line Mach.L
    rw [dI, List.map_append, List.map_reverse, List.map_cons, List.append_assoc]
    rfl
  · have p2 : Is H2 u (dI (woe (M.line c))) := p2
    rw [woe_line hM hc] at p2
    exact p2
-- meaning: slots 0:machine 1:line 2:marks 3:at 4:heads 5:state; level 2; callees trimmed
theorem sc_meaning : FnScope ["machine", "line", "marks", "at", "heads", "state"] ["machine", "line"] (defScope s_meaning) := ⟨rfl, rfl, rfl, by decide +kernel, rfl, by decide +kernel, by decide +kernel⟩
theorem ok_meaning (T : Txt K mg) : FnOk P w K mg base CX0 2 (He.fAd K ("meaning", none)) T.fd_meaning ["machine", "line"] (sp_meaning K) := by
  have G_trimmed := ok_trimmed (P := P) (w := w) (base := base) T
  have b_trimmed : Binds K T.fd_trimmed ["marks"] [] := T.F_trimmed.bindsN fun _ _ _ _ _ _ us hl => match us, hl with | [_], _ => rfl
  have sc := sc_meaning
  refine T.F_meaning.ok sc_meaning (fun vs H Q E h => ?_) (fun cdv A outer s H vs Q E hr h => ?_)
  · unfold sp_meaning at h
    obtain ⟨i, _, p, _⟩ := h
    exact p.len
  obtain ⟨⟨M, c⟩, ⟨hM, hc, hl⟩, p, k⟩ := h
  obtain ⟨v, u, rfl, hv, hu⟩ := pl2 p
  refine ⟨_, PSs.nox (pss_cons (ps_set (i := 2) sc.nd rfl (Or.inr rfl) (pe_fld (pv 0) rfl))
      (pss_cons (ps_setLc (i := 4) (own := [("at", 3)]) (g := gName 3) rfl sc.nd rfl rfl (sw_true rfl rfl rfl (by decide +kernel)) (pi_range1 rfl T.f_range (pa_cons (pe_callB call_len_seq (by rfl) T.f_len (by decide +kernel) (pa_cons (pv 1) pa_nil)) pa_nil)) (blkOk_by (N := ["machine", "line", "marks", "at", "heads", "state"]) (sc := defScope s_meaning) (by decide +kernel)) (fun _ _ _ _ _ => pg_name (i := 3) sc.nd rfl (Or.inl rfl)) (fun _ _ _ _ _ => pts_one (pt_cmpR op_ge (pe_ix (ix_tupK K rfl) (pv 1) (pv 3) (fun _ _ => rfl)) (pv 2) (nomark _))) (fun _ _ _ _ _ => (pv 3)))
      (pss_cons (ps_if (PW.pt (pw_or (pt_cmpR op_ne (pe_callB call_len_seq (by rfl) T.f_len (by decide +kernel) (pa_cons (pv 4) pa_nil)) pe_int (nomark _)) (pw_or1 (pt_cmpR op_ge (pe_ix ix_tup (pv 1) (pe_ix ix_list (pv 4) pe_int (fun _ _ => rfl)) (fun _ _ => rfl)) (pe_op op_mul (pv 2) (pe_op op_add (pe_fld (pv 0) rfl) pe_int)) (nomark _)))))
       (pss_one (ps_ret pe_non))
       pss_nil)
      (pss_cons (ps_set (i := 3) sc.nd rfl (Or.inl rfl) (pe_ix ix_list (pv 4) pe_int (fun _ _ => rfl)))
      (pss_cons (ps_set (i := 5) sc.nd rfl (Or.inl rfl) (pe_op op_sub (pe_op op_fdiv (pe_ix ix_tup (pv 1) (pv 3) (fun _ _ => rfl)) (pv 2)) pe_int))
      (pss_one (ps_ret (pe_tup (pa_cons (pv 5) (pa_cons (pe_call G_trimmed (hr.mono (by decide)) rfl T.g_trimmed T.F_trimmed.kp b_trimmed .nil pass0 (pa_cons (pe_revT (pe_slice sl_tupA (pv 1) po_none (po_some (pv 3)))) pa_nil)) (pa_cons (pe_op op_mod (pe_ix ix_tup (pv 1) (pv 3) (fun _ _ => rfl)) (pv 2)) (pa_cons (pe_call G_trimmed (hr.mono (by decide)) rfl T.g_trimmed T.F_trimmed.kp b_trimmed .nil pass0 (pa_cons (pe_slice sl_tupA (pv 1) (po_some (pe_op op_add (pv 3) pe_int)) po_none) pa_nil)) pa_nil)))))))))))), ?_⟩
  have hM : M.Ok := hM
  have hc : c.Ok M := hc
  have hl : c.l.length + c.r.length ≤ 400 := hl
  have hv : pTape K M v H := hv
  have hu : Is H u (dI (M.line c)) := hu
  have m2 := hM.m2
  have m16 := hM.m16
  have hlen := line_len (M := M) c
  refine q_asgI (ev_marks T (ev_var rfl) hv) fun H1 e1 => ?_
  have hu1 := hu.m (Tsm.ex e1)
  refine q_asgN (evn_lcR (n := ((M.line c).length : Int)) (heF M.m (M.line c)) id (ea_cons (ev_is (ev_lenT (evd_v rfl hu1)) (by rw [List.length_map])) ea_nil) (by omega) (by omega) fun i H2 e2 hi => turn_name (j := 3) rfl (et_test (ev_I (ev_intT (j := i) (evd_v rfl (hu1.m (Tsm.ex e2))) (ev_var rfl) rfl (by omega)) (ev_var rfl))) fun _ => evd_int (ev_var rfl)) fun pn xs H2 hpn e2 hl2 hx => ?_
  rw [heF_eq, heads_line hM hc] at hx
  have hx : Iss H2 xs [.int (c.l.length : Int)] := hx
  have hu2 := hu1.m (Tsm.ex e2)
  have hv2 : pTape K M v H2 := Mo.mo _ _ _ (e1.trans e2) hv
  obtain ⟨hat, htk, hdr⟩ := line_at (M := M) c
  have hin : c.l.length < (M.line c).length := by omega
  have hget : (M.line c).getD c.l.length 0 = M.L c.a c.q := by rw [List.getD_eq_getElem?_getD, hat]; rfl
  have hB := L_bound hM hc.q0 hc.qs hc.a0 hc.am
  have hD := L_div hM hc.a0 hc.am (q := c.q)
  refine q_when (b := false) (et_is (et_or (et_test (ev_neI (ev_lenL (evl_v rfl ⟨pn, xs, rfl, hl2, hx⟩)) ev_c)) fun _ => et_test (ev_I (ev_intT (j := c.l.length) (evd_v rfl hu2) (evi (evd_ixL (evl_v rfl ⟨pn, xs, rfl, hl2, hx⟩) ev_c ⟨0, rfl, rfl⟩)) rfl hin) (ev_mul (ev_var rfl) (ev_I (ev_states T (ev_var rfl) hv2) ev_c) (cm_l (by omega))))) ?_) (fun z => nomatch z) fun _ H3 e3 => ?_
  · rw [hget, decide_eq_false (show ¬ M.m * (M.s + 1) ≤ M.L c.a c.q by omega)]
    rfl
  · have hu3 := hu2.m (Tsm.ex e3)
    refine q_asgI (evi (evd_ixL (evl_v rfl ⟨pn, xs, rfl, e3 _ _ hl2, hx.m (Tsm.ex e3)⟩) ev_c ⟨0, rfl, rfl⟩)) fun H4 e4 => ?_
    have hu4 := hu3.m (Tsm.ex e4)
    refine q_asgI (k := c.q) (ev_is (ev_I (ev_div (ev_intT (j := c.l.length) (evd_v rfl hu4) (ev_var rfl) rfl hin) (ev_var rfl) (by omega)) ev_c) ?_) fun H5 e5 => ?_
    · rw [hget, hD.1]
      congr 1
      omega
    · have hu5 := hu4.m (Tsm.ex e5)
      have hle : c.l.length ≤ ((M.line c).map PyData.int).length := by rw [List.length_map]; omega
      refine s_retP (P := pD (dCf c)) (evd_tup (evds_cons (evd_int (ev_var rfl)) (evds_cons (d := dI c.l) ((evp_call c.l ?_ (evps_cons (P := pD (dI c.l)) (evd_eq (evd_rev (evd_sl (evd_v rfl hu5) eo_none (eo_some (ev_var rfl)))) ?_) evps_nil)).wk ?_) (evds_cons (evd_int (ev_is (ev_mod (ev_intT (j := c.l.length) (evd_v rfl hu5) (ev_var rfl) rfl hin) (ev_var rfl) (by omega)) ?_)) (evds_cons (d := dI c.r) ((evp_call c.r ?_ (evps_cons (P := pD (dI c.r)) (evd_eq (evd_sl (evd_v rfl hu5) (eo_some (ev_I (ev_var rfl) ev_c)) eo_none) ?_) evps_nil)).wk ?_) evds_nil)))) (by simp)) fun u H6 e6 p6 => k u H6 (((((e1.trans e2).trans e3).trans e4).trans e5).trans e6) p6
      · show c.l.length ≤ 1000
        omega
      · rw [cut_to hle, ← List.map_take, htk, ← List.map_reverse, List.reverse_reverse]
      · intro u H6 e6 p6
        have p6 : Is H6 u (dI (trim c.l)) := p6
        rw [hc.lt] at p6
        exact p6
      · rw [hget, hD.2]
      · show c.r.length ≤ 1000
        omega
      · have e7 : (((c.l.length : Nat) : Int) + 1) = ((c.l.length + 1 : Nat) : Int) := by omega
        rw [e7, cut_from (by rw [List.length_map]; omega), ← List.map_drop, hdr]
      · intro u H6 e6 p6
        have p6 : Is H6 u (dI (trim c.r)) := p6
        rw [hc.rt] at p6
        exact p6
-- _law_line: slots 0:_law_machine 1:_law_configuration_here 2:_law_state 3:_law_left 4:_law_mark 5:_law_right; level 2; callees _law_letter
theorem sc_law_line : FnScope ["_law_machine", "_law_configuration_here", "_law_state", "_law_left", "_law_mark", "_law_right"] ["_law_machine", "_law_configuration_here"] (defScope s_law_line) := ⟨rfl, rfl, rfl, by decide +kernel, rfl, by decide +kernel, by decide +kernel⟩
theorem ok_law_line (T : Txt K mg) : FnOk P w K mg base CX0 2 (He.fAd K ("_law_line", none)) T.fd_law_line ["_law_machine", "_law_configuration_here"] (sp_law_line K) := by
  have G_law_letter := ok_law_letter (P := P) (w := w) (base := base) T
  have b_law_letter : Binds K T.fd_law_letter ["_law_machine", "_law_mark", "_law_state"] [] := T.F_law_letter.bindsN fun _ _ _ _ _ _ us hl => match us, hl with | [_, _, _], _ => rfl
  have sc := sc_law_line
  refine T.F_law_line.ok sc_law_line (fun vs H Q E h => ?_) (fun cdv A outer s H vs Q E hr h => ?_)
  · unfold sp_law_line at h
    obtain ⟨i, _, p, _⟩ := h
    exact p.len
  obtain ⟨⟨M, c⟩, ⟨hM, hc, hl⟩, p, k⟩ := h
  obtain ⟨v, u, rfl, hv, hu⟩ := pl2 p
  refine ⟨_, PSs.nox (pss_cons (ps_asg (pv 1) (pg_tup rfl (pgs_cons (pg_name (i := 2) sc.nd rfl (Or.inl rfl)) (pgs_cons (pg_name (i := 3) sc.nd rfl (Or.inl rfl)) (pgs_cons (pg_name (i := 4) sc.nd rfl (Or.inl rfl)) (pgs_cons (pg_name (i := 5) sc.nd rfl (Or.inl rfl)) pgs_nil))))))
      (pss_one (ps_ret (pe_op op_catA (pe_op op_catA (pe_revT (pv 3)) (pe_tup (pa_cons (pe_call G_law_letter (hr.mono (by decide)) rfl T.g_law_letter T.F_law_letter.kp b_law_letter .nil pass0 (pa_cons (pv 0) (pa_cons (pv 4) (pa_cons (pv 2) pa_nil)))) pa_nil))) (pv 5))))), ?_⟩
  have hM : M.Ok := hM
  have hc : c.Ok M := hc
  have hl : c.l.length + c.r.length ≤ 400 := hl
  have hv : pTape K M v H := hv
  have hu : Is H u (dCf c) := hu
  refine q_cf (c := c) (evd_v rfl hu) fun vl vr H1 e1 pl pr => ?_
  refine s_retP (P := pD (dI (M.line c))) (evd_eq (evd_cat (evd_cat (evd_rev (evd_v rfl pl)) (evd_tup (evds_cons (evd_int (ev_of (evp_call (M, c.a, c.q) hM (evps_cons (evp_var (P := pTape K M) rfl (Mo.mo _ _ _ e1 hv)) (evps_cons (evp (ev_var rfl)) (evps_cons (evp (ev_var rfl)) evps_nil)))))) evds_nil) (by simp)) ?_) (evd_v rfl pr) ?_) ?_) fun u H2 e2 p2 => k u H2 (e1.trans e2) p2
  · simp
    omega
  · simp
    omega
  · unfold Mach.line
    rw [dI, List.map_append, List.map_reverse, List.map_cons, List.append_assoc]
    rfl
end
end SD
end
section
set_option Elab.async false
set_option linter.all false
set_option maxRecDepth 100000
set_option maxHeartbeats 4000000
namespace SD
open PySem L2 Evl SDR
section
variable {P : Program} {w : World} {K : PySem.W.Frag} {mg : Str → Option Value} {base : Heap}
/-- some int below m -/
def pRng (m : Int) : Pr := fun v _ => ∃ z : Int, v = .int z ∧ 0 ≤ z ∧ z < m
instance {m : Int} : Mo (pRng m) := ⟨fun _ _ _ _ h => h⟩
theorem evp_intAI {σ : L2.St} {H : Hp} {ta : TE} (ha : EvP ta σ H pAI) : EvP (tCB (fun xs H Q => (∃ i, xs = [.int i] ∧ Q (.int i) H) ∨ ∃ k, xs = [.bl k] ∧ Q (.int (if k then 1 else 0)) H) (tCons ta tNil)) σ H pAI := fun H1 e Q q =>
  ha H1 e _ fun v H2 e2 ⟨z, ez⟩ => .inl ⟨z, by rw [ez], q _ H2 e2 ⟨z, rfl⟩⟩
theorem evp_modAI {σ : L2.St} {H : Hp} {ta tb : TE} {m : Int} (ha : EvP ta σ H pAI) (hb : Ev tb σ H (.int m)) (h : 0 < m) : EvP (tOp (rI (fun _ j => 0 < j) fun i j => .int (i % j)) ta tb) σ H (pRng m) := fun H1 e Q q =>
  ha H1 e _ fun v H2 e2 ⟨z, ez⟩ => hb H2 (e.trans e2) _ fun H3 e3 => ⟨z, m, ez, rfl, h, q _ H3 (e2.trans e3) ⟨_, rfl, Int.emod_nonneg _ (by omega), Int.emod_lt_of_pos _ h⟩⟩
theorem evs_of {σ : L2.St} {H : Hp} {te : TE} {ns : List Int} (h : EvD te σ H (dI ns)) : EvP te σ H (pS ns) := h.wk fun _ _ _ p => .inr p
theorem evs_ofL {σ : L2.St} {H : Hp} {te : TE} {ns : List Int} (h : EvP te σ H (pL (ns.map .int))) : EvP te σ H (pS ns) := h.wk fun _ _ _ p => .inl p
theorem hd0 (l : List Int) : ∃ j, ixN (l.map PyData.int ++ [PyData.int 0]).length 0 = some j ∧ (l.map PyData.int ++ [PyData.int 0])[j]? = some (.int (l.headD 0)) := by
  refine ⟨0, ?_, ?_⟩
  · unfold ixN
    simp
  · cases l <;> rfl
theorem cut1 (l : List Int) : cutD (l.map PyData.int) (some 1) none = l.tail.map PyData.int := by
  cases l with
  | nil => rfl
  | cons a l =>
    have h := cut_from (ds := (a :: l).map PyData.int) (k := 1) (by simp)
    exact h
theorem ev_isNrow {σ : L2.St} {H : Hp} {ta : TE} {r : Row} (ha : EvD ta σ H (dRow r)) : Ev (tOp (fun x y H Q => y = .non ∧ Q (.bl (decide (x = .non))) H) ta (tC .non)) σ H (.bl r.isNone) := by
  cases r with
  | none => exact ev_isN ha
  | some x => exact ev_isN0 ha
-- _law_digits: slots 0:_law_cell_here 1:_law_count 2:_law_many 3:_law_digits_here 4:_law_k; level 2; callees _law_mixed
theorem sc_law_digits : FnScope ["_law_cell_here", "_law_count", "_law_many", "_law_digits_here", "_law_k"] ["_law_cell_here", "_law_count", "_law_many"] (defScope s_law_digits) := ⟨rfl, rfl, rfl, by decide +kernel, rfl, by decide +kernel, by decide +kernel⟩
theorem ok_law_digits (T : Txt K mg) : FnOk P w K mg base CX0 2 (He.fAd K ("_law_digits", none)) T.fd_law_digits ["_law_cell_here", "_law_count", "_law_many"] (sp_law_digits) := by
  have G_law_mixed := ok_law_mixed (P := P) (w := w) (base := base) T
  have b_law_mixed : Binds K T.fd_law_mixed ["_law_cell_here", "_law_k"] [] := T.F_law_mixed.bindsN fun _ _ _ _ _ _ us hl => match us, hl with | [_, _], _ => rfl
  have sc := sc_law_digits
  refine T.F_law_digits.ok sc_law_digits (fun vs H Q E h => ?_) (fun cdv A outer s H vs Q E hr h => ?_)
  · unfold sp_law_digits at h
    obtain ⟨i, _, p, _⟩ := h
    exact p.len
  obtain ⟨⟨c, n, m⟩, ⟨hn, m0, m1⟩, p, k⟩ := h
  dsimp only at p
  obtain ⟨_, _, _, rfl, rfl, rfl, rfl⟩ := pl3 p
  refine ⟨_, PSs.nox (pss_cons (ps_set (i := 3) sc.nd rfl (Or.inl rfl) (pe_lst pa_nil))
      (pss_cons (ps_if (pt_cmpR op_lt (pv 0) (pe_op op_pow pe_int pe_int) (nomark _))
       (pss_cons (ps_for PassesOwn.never rfl (pi_range1 rfl T.f_range (pa_cons (pv 1) pa_nil)) (pg_name (i := 4) sc.nd rfl (Or.inl rfl))
         (pss_one (ps_expr (pe_bm PySem.F.plainAttrs_list PySem.F.slot_list_append PySem.F.type_list_append mt_append (pv 3) (pa_cons (pe_op op_mod (pe_callTy call_int1 (by rfl) T.f_int (by decide +kernel) (pa_cons (pe_call G_law_mixed (hr.mono (by decide)) rfl T.g_law_mixed T.F_law_mixed.kp b_law_mixed .nil pass0 (pa_cons (pv 0) (pa_cons (pv 4) pa_nil))) pa_nil)) (pv 2)) pa_nil)))))
        (pss_one (ps_ret (pv 3))))
       pss_nil)
      (pss_cons (ps_for PassesOwn.never rfl (pi_range1 rfl T.f_range (pa_cons (pv 1) pa_nil)) (pg_name (i := 4) sc.nd rfl (Or.inl rfl))
       (pss_cons (ps_expr (pe_bm PySem.F.plainAttrs_list PySem.F.slot_list_append PySem.F.type_list_append mt_append (pv 3) (pa_cons (pe_op op_mod (pe_callTy call_int1 (by rfl) T.f_int (by decide +kernel) (pa_cons (pv 0) pa_nil)) (pv 2)) pa_nil)))
        (pss_one (ps_set (i := 0) sc.nd rfl (Or.inl rfl) (pe_op op_fdiv (pv 0) (pv 2))))))
      (pss_one (ps_ret (pv 3)))))), ?_⟩
  have hn : n ≤ 100 := hn
  have m0 : 0 < m := m0
  have m1 : m ≤ 1000 := m1
  refine q_asgN (evn_lst evds_nil (by simp)) fun pn xs H1 hpn e1 hl hx => ?_
  obtain rfl : xs = [] := by cases hx; rfl
  have done : ∀ (ns : List Int) H', Ex H H' → ns.length = n → (∀ z ∈ ns, 0 ≤ z ∧ z < m) → H' pn = some (.lst (ns.map V.int)) → Q (.ref pn) H' := fun ns H' e h1 h2 hp => k _ H' e ⟨ns, ⟨h1, h2⟩, pn, _, rfl, hp, iss_ints.mpr rfl⟩
  refine q_when (b := decide (c < 10 ^ (18 : Int).toNat)) (et_test (ev_I (ev_var rfl) (ev_op ev_c ev_c (rv_I ⟨by decide, by decide, by decide⟩)))) (fun _ H2 e2 => ?_) fun _ H2 e2 => ?_
  · refine q_forR1 (j := 4) (n := (n : Int)) (ea_cons (ev_var rfl) ea_nil) ⟨by omega, by omega⟩ (fun i σ' H' => Ex H H' ∧ ∃ (ns : List Int) (z : Option V), ns.length = i ∧ (∀ x ∈ ns, 0 ≤ x ∧ x < m) ∧ H' pn = some (.lst (ns.map V.int)) ∧ σ' = [some (.int c), some (.int (n : Int)), some (.int m), some (.ref pn), z]) (fun H3 e3 => ⟨(e1.trans e2).trans e3, [], none, rfl, by simp, e3 _ _ (e2 _ _ hl), rfl⟩) (fun i σ' H' hi ⟨e3, ns, z, h1, h2, h3, es⟩ => ?_) fun σ' H' ⟨e3, ns, z, h1, h2, h3, es⟩ => ?_
    · subst es
      refine s_appP (P := pRng m) h3 (ev_var rfl) (evp_modAI (evp_intAI (evp_call (c, (i : Int)) trivial (evps_cons (evp (ev_var rfl)) (evps_cons (evp (ev_var rfl)) evps_nil)))) (ev_var rfl) m0) (by rw [List.length_map]; omega) fun v H4 e4 ⟨y, ey, y0, y1⟩ => ⟨Ex.mut (e3.trans e4) hpn, ns ++ [y], some (.int (i : Int)), by simp [h1], ?_, ?_, rfl⟩
      · intro x hx
        rcases List.mem_append.mp hx with hx | hx
        · exact h2 x hx
        · have : x = y := by simpa using hx
          omega
      · rw [upd_same, ey]
        simp
    · subst es
      refine s_retP (P := pV (.ref pn)) (evp (ev_var rfl)) fun v H4 e4 hv => ?_
      obtain rfl : v = .ref pn := hv
      exact done ns H4 (e3.trans e4) (by rw [h1]; omega) h2 (e4 _ _ h3)
  · refine q_forR1 (j := 4) (n := (n : Int)) (ea_cons (ev_var rfl) ea_nil) ⟨by omega, by omega⟩ (fun i σ' H' => Ex H H' ∧ ∃ (ns : List Int) (z : Option V) (c' : Int), ns.length = i ∧ (∀ x ∈ ns, 0 ≤ x ∧ x < m) ∧ H' pn = some (.lst (ns.map V.int)) ∧ σ' = [some (.int c'), some (.int (n : Int)), some (.int m), some (.ref pn), z]) (fun H3 e3 => ⟨(e1.trans e2).trans e3, [], none, c, rfl, by simp, e3 _ _ (e2 _ _ hl), rfl⟩) (fun i σ' H' hi ⟨e3, ns, z, c', h1, h2, h3, es⟩ => ?_) fun σ' H' ⟨e3, ns, z, c', h1, h2, h3, es⟩ => ?_
    · subst es
      refine q_app h3 (ev_var rfl) (ev_mod (ev_int1 (ev_var rfl)) (ev_var rfl) m0) (by rw [List.length_map]; omega) fun H4 e4 => ?_
      refine s_asg (ev_div (ev_var rfl) (ev_var rfl) ⟨m0, by omega⟩) fun H5 e5 => ⟨(Ex.mut (e3.trans e4) hpn).trans e5, ns ++ [c' % m], some (.int (i : Int)), c' / m, by simp [h1], ?_, ?_, rfl⟩
      · intro x hx
        rcases List.mem_append.mp hx with hx | hx
        · exact h2 x hx
        · have : x = c' % m := by simpa using hx
          rw [this]
          exact ⟨Int.emod_nonneg _ (by omega), Int.emod_lt_of_pos _ m0⟩
      · rw [e5 _ _ upd_same]
        simp
    · subst es
      refine s_retP (P := pV (.ref pn)) (evp (ev_var rfl)) fun v H4 e4 hv => ?_
      obtain rfl : v = .ref pn := hv
      exact done ns H4 (e3.trans e4) (by rw [h1]; omega) h2 (e4 _ _ h3)
-- _law_next: slots 0:_law_machine 1:_law_configuration_here 2:_law_state 3:_law_left 4:_law_mark 5:_law_right 6:_law_row; level 3; callees Tape.row, _law_trim
theorem sc_law_next : FnScope ["_law_machine", "_law_configuration_here", "_law_state", "_law_left", "_law_mark", "_law_right", "_law_row"] ["_law_machine", "_law_configuration_here"] (defScope s_law_next) := ⟨rfl, rfl, rfl, by decide +kernel, rfl, by decide +kernel, by decide +kernel⟩
theorem ok_law_next (T : Txt K mg) : FnOk P w K mg base CX0 3 (He.fAd K ("_law_next", none)) T.fd_law_next ["_law_machine", "_law_configuration_here"] (sp_law_next K) := by
  have G_Tape_row := ok_Tape_row (P := P) (w := w) (base := base) T
  have b_Tape_row : Binds K T.fd_Tape_row ["self", "state", "mark"] [] := T.F_Tape_row.bindsN fun _ _ _ _ _ _ us hl => match us, hl with | [_, _, _], _ => rfl
  have G_law_trim := ok_law_trim (P := P) (w := w) (base := base) T
  have b_law_trim : Binds K T.fd_law_trim ["_law_row"] [] := T.F_law_trim.bindsN fun _ _ _ _ _ _ us hl => match us, hl with | [_], _ => rfl
  have sc := sc_law_next
  refine T.F_law_next.ok sc_law_next (fun vs H Q E h => ?_) (fun cdv A outer s H vs Q E hr h => ?_)
  · unfold sp_law_next at h
    obtain ⟨i, _, p, _⟩ := h
    exact p.len
  obtain ⟨⟨M, c⟩, ⟨hM, hc, hl⟩, p, k⟩ := h
  obtain ⟨v, u, rfl, hv, hu⟩ := pl2 p
  refine ⟨_, PSs.nox (pss_cons (ps_asg (pv 1) (pg_tup rfl (pgs_cons (pg_name (i := 2) sc.nd rfl (Or.inl rfl)) (pgs_cons (pg_name (i := 3) sc.nd rfl (Or.inl rfl)) (pgs_cons (pg_name (i := 4) sc.nd rfl (Or.inl rfl)) (pgs_cons (pg_name (i := 5) sc.nd rfl (Or.inl rfl)) pgs_nil))))))
      (pss_cons (ps_set (i := 6) sc.nd rfl (Or.inl rfl) (pe_meth (pv 0) T.c_Tape T.m_Tape_row G_Tape_row (hr.mono (by decide)) b_Tape_row .nil pass0 (pa_cons (pv 2) (pa_cons (pv 4) pa_nil))))
      (pss_cons (ps_if (pt_cmpR op_isN (pv 6) pe_non (nomark _))
       (pss_one (ps_ret pe_non))
       pss_nil)
      (pss_cons (ps_if (pt_cmpR op_eq (pe_ix ix_tup (pv 6) pe_int (fun _ _ => rfl)) pe_int (nomark _))
       (pss_cons (ps_set (i := 3) sc.nd rfl (Or.inl rfl) (pe_call G_law_trim (hr.mono (by decide)) rfl T.g_law_trim T.F_law_trim.kp b_law_trim .nil pass0 (pa_cons (pe_op op_catA (pe_tup (pa_cons (pe_ix ix_tup (pv 6) pe_int (fun _ _ => rfl)) pa_nil)) (pv 3)) pa_nil)))
        (pss_one (ps_ret (pe_tup (pa_cons (pe_ix ix_tup (pv 6) pe_int (fun _ _ => rfl)) (pa_cons (pv 3) (pa_cons (pe_ix ix_tup (pe_op op_catA (pv 5) (pe_tup (pa_cons pe_int pa_nil))) pe_int (fun _ _ => rfl)) (pa_cons (pe_slice sl_tupA (pv 5) (po_some pe_int) po_none) pa_nil))))))))
       pss_nil)
      (pss_cons (ps_set (i := 5) sc.nd rfl (Or.inl rfl) (pe_call G_law_trim (hr.mono (by decide)) rfl T.g_law_trim T.F_law_trim.kp b_law_trim .nil pass0 (pa_cons (pe_op op_catA (pe_tup (pa_cons (pe_ix ix_tup (pv 6) pe_int (fun _ _ => rfl)) pa_nil)) (pv 5)) pa_nil)))
      (pss_one (ps_ret (pe_tup (pa_cons (pe_ix ix_tup (pv 6) pe_int (fun _ _ => rfl)) (pa_cons (pe_slice sl_tupA (pv 3) (po_some pe_int) po_none) (pa_cons (pe_ix ix_tup (pe_op op_catA (pv 3) (pe_tup (pa_cons pe_int pa_nil))) pe_int (fun _ _ => rfl)) (pa_cons (pv 5) pa_nil)))))))))))), ?_⟩
  have hM : M.Ok := hM
  have hc : c.Ok M := hc
  have hl : c.l.length + c.r.length ≤ 400 := hl
  have hv : pTape K M v H := hv
  have hu : Is H u (dCf c) := hu
  refine q_cf (c := c) (evd_v rfl hu) fun vl vr H1 e1 pl pr => ?_
  refine q_asgP (evp_mTape (M := M) (M, c.q, c.a) ⟨hM, hc.q0, hc.qs, hc.a0, hc.am⟩ (ev_var rfl) (Mo.mo _ _ _ e1 hv) (evps_cons (evp (ev_var rfl)) (evps_cons (evp (ev_var rfl)) evps_nil))) fun r H2 e2 hr2 => ?_
  have hr2 : Is H2 r (dRow (M.row c.q c.a)) := hr2
  have pl2 := pl.m (Tsm.ex e2)
  have pr2 := pr.m (Tsm.ex e2)
  have hro := row_ok hM hc.q0 hc.qs hc.a0 hc.am
  cases hrow : M.row c.q c.a with
  | none =>
    rw [hrow] at hr2
    have hnx : M.next c = none := by unfold Mach.next; rw [hrow]
    refine q_when (b := true) (et_test (ev_isN (evd_v rfl hr2))) (fun _ H3 e3 => ?_) fun z => nomatch z
    refine s_retP (P := pD .none) (evp_is ev_c .non) fun u H4 e4 p4 => k u H4 (((e1.trans e2).trans e3).trans e4) ?_
    show Is H4 u (dCfO (M.next c))
    rw [hnx]
    exact p4
  | some row =>
    obtain ⟨wr, mv, af⟩ := row
    rw [hrow] at hr2
    have hr2 : Is H2 r (dI [wr, mv, af]) := hr2
    refine q_when (b := false) (et_test (ev_isN0 (evd_v rfl hr2))) (fun z => nomatch z) fun _ H3 e3 => ?_
    have hr3 := hr2.m (Tsm.ex e3)
    have pl3 := pl2.m (Tsm.ex e3)
    have pr3 := pr2.m (Tsm.ex e3)
    refine q_when (b := decide (mv = 1)) (et_test (ev_eqI (ev_intT (j := 1) (evd_v rfl hr3) ev_c rfl (by simp)) ev_c)) (fun hb H4 e4 => ?_) fun hb H4 e4 => ?_
    · have hm : mv = 1 := of_decide_eq_true hb
      have hnx : M.next c = some ⟨af, trim (wr :: c.l), c.r.headD 0, c.r.tail⟩ := by
        unfold Mach.next
        rw [hrow]
        show (if mv = 1 then _ else _) = _
        rw [if_pos hm]
      have hr4 := hr3.m (Tsm.ex e4)
      refine q_asgP (evp_call (wr :: c.l) ?_ (evps_cons (P := pS (wr :: c.l)) (evs_of (evd_cat (evd_tup (evds_cons (evd_int (ev_intT (j := 0) (evd_v rfl hr4) ev_c rfl (by simp))) evds_nil) (by simp)) (evd_v rfl (pl3.m (Tsm.ex e4))) ?_)) evps_nil)) fun vt H5 e5 p5 => ?_
      · show (wr :: c.l).length ≤ 1000
        simp
        omega
      · simp
        omega
      · have p5 : Is H5 vt (dI (trim (wr :: c.l))) := p5
        have hr5 := hr4.m (Tsm.ex e5)
        have pr5 := (pr3.m (Tsm.ex e4)).m (Tsm.ex e5)
        refine s_retP (P := pD (dCf ⟨af, trim (wr :: c.l), c.r.headD 0, c.r.tail⟩)) (evd_tup (evds_cons (evd_int (ev_intT (j := 2) (evd_v rfl hr5) ev_c rfl (by simp))) (evds_cons (evd_v rfl p5) (evds_cons (evd_ixT (evd_cat (evd_v rfl pr5) (evd_tup (evds_cons (evd_int ev_c) evds_nil) (by simp)) ?_) ev_c (hd0 c.r)) (evds_cons (evd_eq (evd_sl (evd_v rfl pr5) (eo_some ev_c) eo_none) ?_) evds_nil)))) (by simp)) fun u H6 e6 p6 => k u H6 (((((e1.trans e2).trans e3).trans e4).trans e5).trans e6) ?_
        · simp
          omega
        · rw [cut1]
        · show Is H6 u (dCfO (M.next c))
          rw [hnx]
          exact p6
    · have hm : ¬ mv = 1 := of_decide_eq_false hb
      have hnx : M.next c = some ⟨af, c.l.tail, c.l.headD 0, trim (wr :: c.r)⟩ := by
        unfold Mach.next
        rw [hrow]
        show (if mv = 1 then _ else _) = _
        rw [if_neg hm]
      have hr4 := hr3.m (Tsm.ex e4)
      refine q_asgP (evp_call (wr :: c.r) ?_ (evps_cons (P := pS (wr :: c.r)) (evs_of (evd_cat (evd_tup (evds_cons (evd_int (ev_intT (j := 0) (evd_v rfl hr4) ev_c rfl (by simp))) evds_nil) (by simp)) (evd_v rfl (pr3.m (Tsm.ex e4))) ?_)) evps_nil)) fun vt H5 e5 p5 => ?_
      · show (wr :: c.r).length ≤ 1000
        simp
        omega
      · simp
        omega
      · have p5 : Is H5 vt (dI (trim (wr :: c.r))) := p5
        have hr5 := hr4.m (Tsm.ex e5)
        have pl5 := (pl3.m (Tsm.ex e4)).m (Tsm.ex e5)
        refine s_retP (P := pD (dCf ⟨af, c.l.tail, c.l.headD 0, trim (wr :: c.r)⟩)) (evd_tup (evds_cons (evd_int (ev_intT (j := 2) (evd_v rfl hr5) ev_c rfl (by simp))) (evds_cons (evd_eq (evd_sl (evd_v rfl pl5) (eo_some ev_c) eo_none) ?_) (evds_cons (evd_ixT (evd_cat (evd_v rfl pl5) (evd_tup (evds_cons (evd_int ev_c) evds_nil) (by simp)) ?_) ev_c (hd0 c.l)) (evds_cons (evd_v rfl p5) evds_nil)))) (by simp)) fun u H6 e6 p6 => k u H6 (((((e1.trans e2).trans e3).trans e4).trans e5).trans e6) ?_
        · rw [cut1]
        · simp
          omega
        · show Is H6 u (dCfO (M.next c))
          rw [hnx]
          exact p6
-- Tape.__init__: slots 0:self 1:marks 2:states 3:rows 4:row; level 3; callees Tape._is_row, is_integer
theorem sc_Tape_init : FnScope ["self", "marks", "states", "rows", "row"] ["self", "marks", "states", "rows"] (defScope s_Tape_init) := ⟨rfl, rfl, rfl, by decide +kernel, rfl, by decide +kernel, by decide +kernel⟩
theorem ok_Tape_init (T : Txt K mg) : FnOk P w K mg base CX0 3 (He.fAd K ("Tape", some "__init__")) T.fd_Tape_init ["self", "marks", "states", "rows"] (sp_Tape_init K) := by
  have G_Tape_is_row := ok_Tape_is_row (P := P) (w := w) (base := base) T
  have b_Tape_is_row : Binds K T.fd_Tape_is_row ["self", "row"] [] := T.F_Tape_is_row.bindsN fun _ _ _ _ _ _ us hl => match us, hl with | [_, _], _ => rfl
  have G_is_integer := ok_is_integer (P := P) (w := w) (base := base) T
  have b_is_integer : Binds K T.fd_is_integer ["value", "least", "most"] [] := T.F_is_integer.bindsN fun _ _ _ _ _ _ us hl => match us, hl with | [_, _, _], _ => rfl
  have sc := sc_Tape_init
  refine T.F_Tape_init.ok sc_Tape_init (fun vs H Q E h => ?_) (fun cdv A outer s H vs Q E hr h => ?_)
  · unfold sp_Tape_init at h
    obtain ⟨i, p, dx, ws, H0, e, _, _, _, _, q, _⟩ := h
    rw [e]
    exact congrArg (· + 1) q.len
  obtain ⟨M, p, dx, ws, H0, rfl, hp, hp0, e0, hM, pp, k⟩ := h
  obtain ⟨_, _, _, rfl, rfl, rfl, l, xs, rfl, hl0, hx0⟩ := pl3 pp
  refine ⟨_, PSs.nox (pss_cons (ps_if (PW.pt (pw_or (pt_not (pt_val (pe_call G_is_integer (hr.mono (by decide)) rfl T.g_is_integer T.F_is_integer.kp b_is_integer .nil pass0 (pa_cons (pv 1) (pa_cons pe_int (pa_cons (pe_glob (v := .int 16) rfl T.i_MOST_MARKS ⟨_, rfl⟩) pa_nil)))))) (pw_or1 (pt_not (pt_val (pe_call G_is_integer (hr.mono (by decide)) rfl T.g_is_integer T.F_is_integer.kp b_is_integer .nil pass0 (pa_cons (pv 2) (pa_cons pe_int (pa_cons (pe_glob (v := .int 4000) rfl T.i_MOST_STATES ⟨_, rfl⟩) pa_nil)))))))))
       (pss_one (ps_never))
       pss_nil)
      (pss_cons (ps_if (pt_cmpR op_ne (pe_callB call_len_seq (by rfl) T.f_len (by decide +kernel) (pa_cons (pv 3) pa_nil)) (pe_op op_mul (pv 1) (pv 2)) (nomark _))
       (pss_one (ps_never))
       pss_nil)
      (pss_cons (ps_fld (pv 0) (pv 1) rfl)
      (pss_cons (ps_fld (pv 0) (pv 2) rfl)
      (pss_cons (ps_for PassesOwn.never rfl (pi_list (pv 3)) (pg_name (i := 4) sc.nd rfl (Or.inl rfl))
       (pss_one (ps_if (PW.pt (pw_and (pt_cmpR op_notN (pv 4) pe_non (nomark _)) (pw_and1 (pt_not (pt_val (pe_meth (pv 0) T.c_Tape T.m_Tape_is_row G_Tape_is_row (hr.mono (by decide)) b_Tape_is_row .nil pass0 (pa_cons (pv 4) pa_nil)))))))
         (pss_one (ps_never))
         pss_nil)))
      (pss_one (ps_fld (pv 0) (pe_callTy call_list_of (by rfl) T.f_list (by decide +kernel) (pa_cons (pv 3) pa_nil)) rfl))))))), ?_⟩
  have hM : M.Ok := hM
  have m2 := hM.m2
  have m16 := hM.m16
  have s1 := hM.s1
  have s20 := hM.s20
  refine q_when (b := false) (et_is (et_or (et_not (et_B (ev_isin (ev_var rfl) ev_c ev_c))) fun _ => et_not (et_B (ev_isin (ev_var rfl) ev_c ev_c))) ?_) (fun z => nomatch z) fun _ H1 e1 => ?_
  · rw [decide_eq_true (by omega), decide_eq_true (by omega), decide_eq_true (by omega), decide_eq_true (by omega)]
    rfl
  have hl1 : H1 l = some (.lst xs) := e1 _ _ (e0 _ _ hl0)
  have hx1 : Iss H1 xs (M.rows.map dRow) := hx0.m (Tsm.ex (e0.trans e1))
  refine q_when (b := false) (et_test (ev_is (ev_neI (ev_lenL (evl_v rfl ⟨l, xs, rfl, hl1, hx1⟩)) (ev_mul (ev_var rfl) (ev_var rfl) (cm_l (by omega)))) ?_)) (fun z => nomatch z) fun _ H2 e2 => ?_
  · rw [List.length_map, hM.len, decide_eq_true rfl]
    rfl
  refine q_fldP (P := pI M.m) (evp (ev_var rfl)) (ev_var rfl) (e2 _ _ (e1 _ _ hp)) T.c_Tape T.n_Tape_marks (by simp) fun y H3 e3 hy hp3 => ?_
  obtain rfl : y = .int M.m := hy
  refine q_fldP (P := pI M.s) (evp (ev_var rfl)) (ev_var rfl) upd_same T.c_Tape T.n_Tape_states (Nat.lt_of_le_of_lt (f1_len _ _) (by decide)) fun y H4 e4 hy hp4 => ?_
  obtain rfl : y = .int M.s := hy
  have e5 : Ex H0 (upd H4 p (.ins (cTape K) dx (f2 "marks" (.int M.m) "states" (.int M.s)))) := Ex.mut ((Ex.mut (((e0.trans e1).trans e2).trans e3) hp0).trans e4) hp0
  refine q_forLn (a := l) (xs := xs) (ev_var rfl) (SqL.of (e5 _ _ hl0)) (fun i σ' H' => Ex H0 H' ∧ H' p = some (.ins (cTape K) dx (f2 "marks" (.int M.m) "states" (.int M.s))) ∧ ∃ z, σ' = [some (.ref p), some (.int M.m), some (.int M.s), some (.ref l), z]) (fun H5 e6 => ⟨e5.trans e6, e6 _ _ upd_same, none, rfl⟩) (fun i σ' H' _ ⟨e6, _⟩ => SqL.of (e6 _ _ hl0)) (fun i x σ' H' hi ⟨e6, hp6, z, es⟩ => ?_) fun σ' H' ⟨e6, hp6, z, es⟩ => ?_
  · subst es
    obtain ⟨d, hd, hx⟩ := hx0.get' hi
    have hx6 := hx.m (Tsm.ex e6)
    rw [List.getElem?_map] at hd
    cases hr0 : M.rows[i]? with
    | none => rw [hr0] at hd; cases hd
    | some r =>
      rw [hr0] at hd
      obtain rfl : dRow r = d := Option.some.inj hd
      have hrok := hM.rows r (List.mem_of_getElem? hr0)
      cases r with
      | none =>
        refine s_when (b := false) (et_and (b := true) (et_test (ev_notN0 (evd_v rfl hx6))) fun z => nomatch z) (fun z => nomatch z) fun _ H7 e7 => ⟨e6.trans e7, e7 _ _ hp6, _, rfl⟩
      | some row =>
        obtain ⟨wr, mv, af⟩ := row
        have hx6 : Is H' x (dI [wr, mv, af]) := hx6
        refine s_when (b := false) (et_is (et_and (et_test (ev_notN (evd_v rfl hx6))) fun _ => et_not (et_B (ev_of (v := .bl true) (evp_meth (P0 := pMS K M.m M.s) (M.m, M.s, wr, mv, af) hrok rfl (ev_var rfl) hp6 (f2_no (m := "_is_row") _ _ (by decide +kernel) (by decide +kernel)) ⟨p, dx, _, rfl, hp6, f2_1 _ _ nm1, f2_2 _ _ _ _⟩ (evps_cons (P := pD (dI [wr, mv, af])) (evd_v rfl hx6) evps_nil))))) rfl) (fun z => nomatch z) fun _ H7 e7 => ⟨e6.trans e7, e7 _ _ hp6, _, rfl⟩
  · subst es
    refine s_fldP (P := pL (M.rows.map dRow)) (evp_n (evn_list (evl_v rfl ⟨l, xs, rfl, e6 _ _ hl0, hx0.m (Tsm.ex e6)⟩))) (ev_var rfl) hp6 T.c_Tape T.n_Tape_rows (Nat.lt_of_le_of_lt (f2_len _ _ _ _) (by decide)) fun y H7 e7 ⟨l2, xs2, ey, h1, h2⟩ hp7 => ?_
    subst ey
    exact k _ (Ex.mut (e6.trans e7) hp0) ⟨p, dx, l2, xs2, rfl, upd_same, by rw [upd_ne (fun e => by rw [e, hp7] at h1; cases h1)]; exact h1, h2.m (Tsm.updO hp7 fun _ z => nomatch z)⟩
-- Tape.stopped: slots 0:self 1:configuration; level 3; callees Tape.row
theorem sc_Tape_stopped : FnScope ["self", "configuration"] ["self", "configuration"] (defScope s_Tape_stopped) := ⟨rfl, rfl, rfl, by decide +kernel, rfl, by decide +kernel, by decide +kernel⟩
theorem ok_Tape_stopped (T : Txt K mg) : FnOk P w K mg base CX0 3 (He.fAd K ("Tape", some "stopped")) T.fd_Tape_stopped ["self", "configuration"] (sp_Tape_stopped K) := by
  have G_Tape_row := ok_Tape_row (P := P) (w := w) (base := base) T
  have b_Tape_row : Binds K T.fd_Tape_row ["self", "state", "mark"] [] := T.F_Tape_row.bindsN fun _ _ _ _ _ _ us hl => match us, hl with | [_, _, _], _ => rfl
  have sc := sc_Tape_stopped
  refine T.F_Tape_stopped.ok sc_Tape_stopped (fun vs H Q E h => ?_) (fun cdv A outer s H vs Q E hr h => ?_)
  · unfold sp_Tape_stopped at h
    obtain ⟨i, _, p, _⟩ := h
    exact p.len
  obtain ⟨⟨M, c⟩, ⟨hM, hc⟩, p, k⟩ := h
  obtain ⟨v, u, rfl, hv, hu⟩ := pl2 p
  refine ⟨_, PSs.nox (pss_one (ps_ret (pe_cmpR op_isN (pe_meth (pv 0) T.c_Tape T.m_Tape_row G_Tape_row (hr.mono (by decide)) b_Tape_row .nil pass0 (pa_cons (pe_ix ix_tup (pv 1) pe_int (fun _ _ => rfl)) (pa_cons (pe_ix ix_tup (pv 1) pe_int (fun _ _ => rfl)) pa_nil))) pe_non (nomark _)))), ?_⟩
  have hM : M.Ok := hM
  have hc : c.Ok M := hc
  have hv : pTape K M v H := hv
  have hu : Is H u (dCf c) := hu
  exact s_retP (P := pB (M.row c.q c.a).isNone) (evp (ev_isNrow (evp_mTape (M := M) (M, c.q, c.a) ⟨hM, hc.q0, hc.qs, hc.a0, hc.am⟩ (ev_var rfl) hv (evps_cons (evp (evi (evd_ixT (evd_v rfl hu) ev_c ⟨0, rfl, rfl⟩))) (evps_cons (evp (evi (evd_ixT (evd_v rfl hu) ev_c ⟨2, rfl, rfl⟩))) evps_nil))))) k
-- TileStair.down: slots 0:self 1:configuration; level 3; callees line_of
theorem sc_TileStair_down : FnScope ["self", "configuration"] ["self", "configuration"] (defScope s_TileStair_down) := ⟨rfl, rfl, rfl, by decide +kernel, rfl, by decide +kernel, by decide +kernel⟩
theorem ok_TileStair_down (T : Txt K mg) : FnOk P w K mg base CX0 3 (He.fAd K ("TileStair", some "down")) T.fd_TileStair_down ["self", "configuration"] (sp_TileStair_down K) := by
  have G_line_of := ok_line_of (P := P) (w := w) (base := base) T
  have b_line_of : Binds K T.fd_line_of ["marks", "configuration"] [] := T.F_line_of.bindsN fun _ _ _ _ _ _ us hl => match us, hl with | [_, _], _ => rfl
  have sc := sc_TileStair_down
  refine T.F_TileStair_down.ok sc_TileStair_down (fun vs H Q E h => ?_) (fun cdv A outer s H vs Q E hr h => ?_)
  · unfold sp_TileStair_down at h
    obtain ⟨i, _, p, _⟩ := h
    exact p.len
  obtain ⟨⟨M, ts, c⟩, hz, p, k⟩ := h
  obtain ⟨v, u, rfl, hv, hu⟩ := pl2 p
  refine ⟨_, PSs.nox (pss_one (ps_ret (pe_call G_line_of (hr.mono (by decide)) rfl T.g_line_of T.F_line_of.kp b_line_of .nil pass0 (pa_cons (pe_fld (pe_fld (pv 0) rfl) rfl) (pa_cons (pv 1) pa_nil))))), ?_⟩
  have hv : pStair K M ts v H := hv
  have hu : Is H u (dCf c) := hu
  obtain ⟨uv, zv, h1, h2, h3, h4⟩ := stair_parts T hv
  exact s_retP (P := pD (dI (M.line c))) (evp_call (M, c) hz (evps_cons (evp (ev_marks T (h3 (Ex.refl H) (ev_var rfl)) h1)) (evps_cons (P := pD (dCf c)) (evd_v rfl hu) evps_nil))) k
-- TileStair.up: slots 0:self 1:configuration; level 3; callees meaning
theorem sc_TileStair_up : FnScope ["self", "configuration"] ["self", "configuration"] (defScope s_TileStair_up) := ⟨rfl, rfl, rfl, by decide +kernel, rfl, by decide +kernel, by decide +kernel⟩
theorem ok_TileStair_up (T : Txt K mg) : FnOk P w K mg base CX0 3 (He.fAd K ("TileStair", some "up")) T.fd_TileStair_up ["self", "configuration"] (sp_TileStair_up K) := by
  have G_meaning := ok_meaning (P := P) (w := w) (base := base) T
  have b_meaning : Binds K T.fd_meaning ["machine", "line"] [] := T.F_meaning.bindsN fun _ _ _ _ _ _ us hl => match us, hl with | [_, _], _ => rfl
  have sc := sc_TileStair_up
  refine T.F_TileStair_up.ok sc_TileStair_up (fun vs H Q E h => ?_) (fun cdv A outer s H vs Q E hr h => ?_)
  · unfold sp_TileStair_up at h
    obtain ⟨i, _, p, _⟩ := h
    exact p.len
  obtain ⟨⟨M, ts, c⟩, hz, p, k⟩ := h
  obtain ⟨v, u, rfl, hv, hu⟩ := pl2 p
  refine ⟨_, PSs.nox (pss_one (ps_ret (pe_call G_meaning (hr.mono (by decide)) rfl T.g_meaning T.F_meaning.kp b_meaning .nil pass0 (pa_cons (pe_fld (pv 0) rfl) (pa_cons (pv 1) pa_nil))))), ?_⟩
  have hv : pStair K M ts v H := hv
  have hu : Is H u (dI (M.line c)) := hu
  obtain ⟨uv, zv, h1, h2, h3, h4⟩ := stair_parts T hv
  exact s_retP (P := pD (dCf c)) (evp_call (M, c) hz (evps_cons (P := pTape K M) (evp_is (h3 (Ex.refl H) (ev_var rfl)) h1) (evps_cons (P := pD (dI (M.line c))) (evd_v rfl hu) evps_nil))) k
-- TileStair.pace: slots 0:self 1:configuration; level 4; callees Tape.stopped
theorem sc_TileStair_pace : FnScope ["self", "configuration"] ["self", "configuration"] (defScope s_TileStair_pace) := ⟨rfl, rfl, rfl, by decide +kernel, rfl, by decide +kernel, by decide +kernel⟩
theorem ok_TileStair_pace (T : Txt K mg) : FnOk P w K mg base CX0 4 (He.fAd K ("TileStair", some "pace")) T.fd_TileStair_pace ["self", "configuration"] (sp_TileStair_pace K) := by
  have G_Tape_stopped := ok_Tape_stopped (P := P) (w := w) (base := base) T
  have b_Tape_stopped : Binds K T.fd_Tape_stopped ["self", "configuration"] [] := T.F_Tape_stopped.bindsN fun _ _ _ _ _ _ us hl => match us, hl with | [_, _], _ => rfl
  have sc := sc_TileStair_pace
  refine T.F_TileStair_pace.ok sc_TileStair_pace (fun vs H Q E h => ?_) (fun cdv A outer s H vs Q E hr h => ?_)
  · unfold sp_TileStair_pace at h
    obtain ⟨i, _, p, _⟩ := h
    exact p.len
  obtain ⟨⟨M, ts, c⟩, ⟨hM, hc, hl⟩, p, k⟩ := h
  obtain ⟨v, u, rfl, hv, hu⟩ := pl2 p
  refine ⟨_, PSs.nox (pss_one (ps_ret (pe_ifExp (pt_val (pe_meth (pe_fld (pv 0) rfl) T.c_Tape T.m_Tape_stopped G_Tape_stopped (hr.mono (by decide)) b_Tape_stopped .nil pass0 (pa_cons (pv 1) pa_nil))) pe_int pe_int))), ?_⟩
  have hv : pStair K M ts v H := hv
  have hu : Is H u (dCf c) := hu
  obtain ⟨uv, zv, h1, h2, h3, h4⟩ := stair_parts T hv
  refine s_retP (P := pI (if (M.row c.q c.a).isNone then 0 else 1)) (evp_if (b := (M.row c.q c.a).isNone) (et_B (ev_of (evp_mTape (M := M) (M, c) ⟨hM, hc⟩ (h3 (Ex.refl H) (ev_var rfl)) h1 (evps_cons (P := pD (dCf c)) (evd_v rfl hu) evps_nil)))) (fun hb => ?_) fun hb => ?_) k
  · rw [hb]
    exact evp ev_c
  · rw [hb]
    exact evp ev_c
-- _law_steps: slots 0:_law_machine 1:_law_configuration_here 2:_law_steps_here 3:_law_found 4:_law_k 5:_law_after; level 4; callees _law_next
theorem sc_law_steps : FnScope ["_law_machine", "_law_configuration_here", "_law_steps_here", "_law_found", "_law_k", "_law_after"] ["_law_machine", "_law_configuration_here", "_law_steps_here"] (defScope s_law_steps) := ⟨rfl, rfl, rfl, by decide +kernel, rfl, by decide +kernel, by decide +kernel⟩
theorem ok_law_steps (T : Txt K mg) : FnOk P w K mg base CX0 4 (He.fAd K ("_law_steps", none)) T.fd_law_steps ["_law_machine", "_law_configuration_here", "_law_steps_here"] (sp_law_steps K) := by
  have G_law_next := ok_law_next (P := P) (w := w) (base := base) T
  have b_law_next : Binds K T.fd_law_next ["_law_machine", "_law_configuration_here"] [] := T.F_law_next.bindsN fun _ _ _ _ _ _ us hl => match us, hl with | [_, _], _ => rfl
  have sc := sc_law_steps
  refine T.F_law_steps.ok sc_law_steps (fun vs H Q E h => ?_) (fun cdv A outer s H vs Q E hr h => ?_)
  · unfold sp_law_steps at h
    obtain ⟨i, _, p, _⟩ := h
    exact p.len
  obtain ⟨⟨M, c, n⟩, ⟨⟨hM, hc, hl⟩, hn⟩, p, k⟩ := h
  dsimp only at p
  obtain ⟨v, u, _, rfl, hv, hu, rfl⟩ := pl3 p
  refine ⟨_, PSs.nox (pss_cons (ps_set (i := 3) sc.nd rfl (Or.inl rfl) (pe_lst (pa_cons (pv 1) pa_nil)))
      (pss_cons (ps_for PassesOwn.never rfl (pi_range1 rfl T.f_range (pa_cons (pv 2) pa_nil)) (pg_name (i := 4) sc.nd rfl (Or.inl rfl))
       (pss_cons (ps_set (i := 5) sc.nd rfl (Or.inl rfl) (pe_call G_law_next (hr.mono (by decide)) rfl T.g_law_next T.F_law_next.kp b_law_next .nil pass0 (pa_cons (pv 0) (pa_cons (pe_ix ix_list (pv 3) (pe_un un_neg pe_int) (fun _ _ => rfl)) pa_nil))))
        (pss_cons (ps_if (pt_cmpR op_isN (pv 5) pe_non (nomark _))
         (pss_one (ps_ret (pv 3)))
         pss_nil)
        (pss_one (ps_expr (pe_bm PySem.F.plainAttrs_list PySem.F.slot_list_append PySem.F.type_list_append mt_append (pv 3) (pa_cons (pv 5) pa_nil)))))))
      (pss_one (ps_ret (pv 3))))), ?_⟩
  have hM : M.Ok := hM
  have hc : c.Ok M := hc
  have hn : c.l.length + c.r.length + n ≤ 300 := hn
  have hv : pTape K M v H := hv
  have hu : Is H u (dCf c) := hu
  refine q_asgN (evn_lst (evds_cons (evd_v rfl hu) evds_nil) (by simp)) fun pn xs H1 hpn e1 hl1 hx1 => ?_
  -- ahead of turn i: the run of i steps, with the last of it
  refine q_forR1 (j := 4) (n := (n : Int)) (ea_cons (ev_var rfl) ea_nil) ⟨by omega, by omega⟩ (fun i σ' H' => Ex H H' ∧ ∃ (ys : List V) (rs : List Cf) (b : Cf) (z4 z5 : Option V), M.runM n c = rs ++ M.runM (n - i) b ∧ rs.length = i ∧ b.Ok M ∧ b.l.length + b.r.length ≤ 300 - (n - i) ∧ H' pn = some (.lst ys) ∧ Iss H' ys ((rs ++ [b]).map dCf) ∧ σ' = [some v, some u, some (.int (n : Int)), some (.ref pn), z4, z5])
    (fun H2 e2 => ⟨e1.trans e2, xs, [], c, none, none, rfl, rfl, hc, by omega, e2 _ _ hl1, hx1.m (Tsm.ex e2), rfl⟩) (fun i σ' H' hi ⟨e3, ys, rs, b, z4, z5, hrun, hrl, hb, hbl, hl3, hx3, es⟩ => ?_) fun σ' H' ⟨e3, ys, rs, b, z4, z5, hrun, hrl, hb, hbl, hl3, hx3, es⟩ => ?_
  · subst es
    have hx3' := hx3
    rw [List.map_append] at hx3'
    have hn1 : n - i = (n - (i + 1)) + 1 := by omega
    refine q_asgP (evp_call (M, b) ⟨hM, hb, by show b.l.length + b.r.length ≤ 400; omega⟩ (evps_cons (P := pTape K M) (evp_var rfl (Mo.mo _ _ _ e3 hv)) (evps_cons (P := pD (dCf b)) (evd_lastL (evl_v rfl ⟨pn, ys, rfl, hl3, hx3'⟩)) evps_nil))) fun r H4 e4 p4 => ?_
    have p4 : Is H4 r (dCfO (M.next b)) := p4
    have hl4 := e4 _ _ hl3
    have hx4 := hx3.m (Tsm.ex e4)
    cases hnx : M.next b with
    | none =>
      rw [hnx] at p4
      have hall : M.runM n c = rs ++ [b] := by
        rw [hrun, hn1]
        show rs ++ (match M.next b with | none => [b] | some c' => b :: M.runM _ c') = _
        rw [hnx]
      refine q_when (b := true) (et_test (ev_isN (evd_v rfl p4))) (fun _ H5 e5 => ?_) fun z => nomatch z
      refine s_retP (P := pL ((M.runM n c).map dCf)) (evl_v rfl ⟨pn, ys, rfl, e5 _ _ hl4, ?_⟩) fun w H6 e6 p6 => k w H6 (((e3.trans e4).trans e5).trans e6) p6
      rw [hall]
      exact hx4.m (Tsm.ex e5)
    | some b' =>
      rw [hnx] at p4
      have p4 : Is H4 r (dCf b') := p4
      have hsz := next_len hnx
      have hlen := hx4.len
      refine q_when (b := false) (et_test (ev_isN0 (evd_v rfl p4))) (fun z => nomatch z) fun _ H5 e5 => ?_
      refine s_appP (P := pD (dCf b')) (e5 _ _ hl4) (ev_var rfl) (evd_v rfl (p4.m (Tsm.ex e5))) ?_ fun y H6 e6 p6 => ⟨Ex.mut (((e3.trans e4).trans e5).trans e6) hpn, ys ++ [y], rs ++ [b], b', some (.int (i : Int)), some r, ?_, by simp [hrl], next_ok hM hb hnx, by omega, upd_same, ?_, rfl⟩
      · rw [hlen]
        simp
        omega
      · rw [hrun, hn1]
        show rs ++ (match M.next b with | none => [b] | some c' => b :: M.runM _ c') = _
        rw [hnx, List.append_assoc]
        rfl
      · have h7 := e6 _ _ (e5 _ _ hl4)
        rw [List.map_append]
        exact ((hx4.m (Tsm.ex (e5.trans e6))).snoc p6).m (Tsm.updL h7)
  · subst es
    refine s_retP (P := pL ((M.runM n c).map dCf)) (evl_v rfl ⟨pn, ys, rfl, hl3, ?_⟩) fun w H6 e6 p6 => k w H6 (e3.trans e6) p6
    have h0 : n - ((n : Int)).toNat = 0 := by omega
    rw [hrun, h0]
    exact hx3
end
end SD
end
section
set_option Elab.async false
set_option linter.all false
set_option maxRecDepth 100000
set_option maxHeartbeats 4000000
namespace SD
open PySem L2 Evl SDR
section
variable {P : Program} {w : World} {K : PySem.W.Frag} {mg : Str → Option Value} {base : Heap}
open PySem.W in
theorem alike_dT (a b : Tl) : PySem.W.alike (dT a) (dT b) = true := by
  simp [dT, dI, PySem.W.alike, PySem.W.alikeAll]
theorem alike_rows : ∀ r r' : List Tl, PySem.W.alikeAll (r.map dT) (r'.map dT) = true
  | [], _ => by simp [PySem.W.alikeAll]
  | _ :: _, [] => by simp [PySem.W.alikeAll]
  | a :: r, b :: r' => by
    rw [List.map_cons, List.map_cons]
    unfold PySem.W.alikeAll
    rw [alike_dT, alike_rows r r']
    rfl
theorem alike_dTs (r r' : List Tl) : PySem.W.alike (dTs r) (dTs r') = true := by
  unfold dTs PySem.W.alike
  exact alike_rows r r'
theorem dep_dTs (r : List Tl) : (dTs r).depth ≤ 60 := by
  have h := (all_tls r).2
  unfold dTs
  have e2 : (PyData.tuple (r.map dT)).depth = PyData.depthAll (r.map dT) + 1 := by simp only [PyData.depth]
  rw [e2]
  omega
/-- pairs of values and data -/
theorem iss_zip {H : Hp} : ∀ {xs : List V} {ds : List PyData}, Iss H xs ds → ∃ bs : List (V × PyData), xs = bs.map (·.1) ∧ ds = bs.map (·.2) ∧ ∀ b ∈ bs, Is H b.1 b.2
  | _, _, .nil => ⟨[], rfl, rfl, fun _ h => by cases h⟩
  | _, _, .cons (v := v) (d := d) h t => by
    obtain ⟨bs, h1, h2, h3⟩ := iss_zip t
    refine ⟨(v, d) :: bs, by rw [h1]; rfl, by rw [h2]; rfl, fun b hb => ?_⟩
    rcases List.mem_cons.mp hb with rfl | hb
    · exact h
    · exact h3 b hb
theorem iss_unzip {H : Hp} : ∀ (bs : List (V × PyData)), (∀ b ∈ bs, Is H b.1 b.2) → Iss H (bs.map (·.1)) (bs.map (·.2))
  | [], _ => .nil
  | b :: bs, h => .cons (h b (by simp)) (iss_unzip bs fun c hc => h c (by simp [hc]))
/-- sorted, told as a permutation -/
theorem evp_sorted {σ : L2.St} {H : Hp} {ta : TE} {ds : List PyData} (ha : EvP ta σ H (pL ds)) (h1 : PySem.W.AllAlike ds) (h2 : PySem.W.Sortable ds) (h3 : ∀ d ∈ ds, d.depth ≤ 60) :
    EvP (tCB (rSortedD K) (tCons ta tNil)) σ H (pEx (fun ds' : List PyData => ds'.Perm ds) fun ds' => pL ds') := fun H1 e Q q => ha H1 e _ fun x H2 e2 ⟨a, xs, ex, g1, g2⟩ => by
  subst ex
  obtain ⟨bs, rfl, rfl, h4⟩ := iss_zip g2
  refine ⟨a, bs, rfl, SqL.of g1, fun b hb => Is.dp _ _ (h4 b hb), h1, h2, fun b hb => h3 _ (List.mem_map.mpr ⟨b, hb, rfl⟩), fun bs' p hperm hp => q _ _ (e2.trans (Ex.new hp)) ⟨bs'.map (·.2), hperm.map _, p, _, rfl, upd_same, ?_⟩⟩
  exact (iss_unzip bs' fun b hb => h4 b (hperm.mem_iff.mp hb)).m (Tsm.ex (Ex.new hp))
/-- a dict from whose keys a colour is known -/
def pDk (g : Int → Bool) : Pr := fun x H => ∃ d kvs, x = .ref d ∧ H d = some (.dK kvs) ∧ ∀ w : Int, (valV kvs (Sum.inl w)).isSome = g w
instance {g : Int → Bool} : Mo (pDk g) := ⟨fun v H H' e ⟨d, kvs, h1, h2, h3⟩ => ⟨d, kvs, h1, e _ _ h2, h3⟩⟩
theorem pDk_updL {g : Int → Bool} {x : V} {H : Hp} {a : Addr} {xs : List V} {o : HO} (h : pDk g x H) (ha : H a = some (.lst xs)) : pDk g x (upd H a o) := by
  obtain ⟨d, kvs, h1, h2, h3⟩ := h
  exact ⟨d, kvs, h1, by rw [upd_ne (fun e => by rw [e, ha] at h2; cases h2)]; exact h2, h3⟩
theorem q_asgL1 {σ : L2.St} {H : Hp} {te : TE} {P : Pr} {D : Ends} {tz : TS} {i : Nat} [m : Mo P] (h : EvP te σ H P) (k : ∀ p x H1, H p = none → Ex H H1 → H1 p = some (.lst [x]) → P x H1 → tz D (σ.set i (some (.ref p))) H1) : tSeq (tAsg (tLst (tCons te tNil)) (gName i)) tz D σ H :=
  h H (Ex.refl H) _ fun x H2 e2 p => ⟨sz_of (by simp), fun a ha => k a x _ (fresh_back e2 ha) (e2.trans (Ex.new ha)) upd_same (m.mo _ _ _ (Ex.new ha) p)⟩
/-- {k: v} -/
theorem evp_disp1 {σ : L2.St} {H : Hp} {tk tv : TE} {z : Int} {y : V} {g : Int → Bool} (hk : Ev tk σ H (.int z)) (hv : Ev tv σ H y) (hg : ∀ w : Int, g w = decide (w = z)) : EvP (tDisp [(tk, tv)]) σ H (pDk g) := fun H1 e Q q p hp =>
  hk _ (e.trans (Ex.new hp)) _ fun H2 e2 => hv H2 ((e.trans (Ex.new hp)).trans e2) _ fun H3 e3 => ⟨e3 _ _ (e2 _ _ upd_same), [(Sum.inl z, y)], rfl, by simp, q _ _ (Ex.mut (((Ex.new hp).trans e2).trans e3) hp) ⟨p, _, rfl, upd_same, fun w => by
    show (valV (putK [] (Sum.inl z) y) (Sum.inl w)).isSome = g w
    rw [valV_put, hg]
    by_cases h : w = z
    · rw [if_pos (by rw [h]), decide_eq_true h]; rfl
    · rw [if_neg (fun e => h (Sum.inl.inj e)), decide_eq_false h]; rfl⟩⟩
theorem tls_at {ts : List Tl} {i : Nat} {d : PyData} (h : (ts.map dT)[i]? = some d) : ∃ t, ts[i]? = some t ∧ d = dT t := by
  rw [List.getElem?_map] at h
  cases q : ts[i]? with
  | none => rw [q] at h; cases h
  | some t => rw [q] at h; exact ⟨t, rfl, (Option.some.inj h).symm⟩
-- _reaching: slots 0:tiles 1:floor 2:right 3:good 4:south 5:found 6:tile; level 1; callees 
theorem sc_reaching : FnScope ["tiles", "floor", "right", "good", "south", "found", "tile"] ["tiles", "floor", "right"] (defScope s_reaching) := ⟨rfl, rfl, rfl, by decide +kernel, rfl, by decide +kernel, by decide +kernel⟩
theorem ok_reaching (T : Txt K mg) : FnOk P w K mg base CX0 1 (He.fAd K ("_reaching", none)) T.fd_reaching ["tiles", "floor", "right"] (sp_reaching K) := by
  have sc := sc_reaching
  refine T.F_reaching.ok sc_reaching (fun vs H Q E h => ?_) (fun cdv A outer s H vs Q E hr h => ?_)
  · unfold sp_reaching at h
    obtain ⟨i, _, p, _⟩ := h
    exact p.len
  have hun := hu_of hr
  obtain ⟨⟨ts, f⟩, ⟨hz1, hz2⟩, p, k⟩ := h
  obtain ⟨v, u, _, rfl, hv, hu, rfl⟩ := pl3 p
  refine ⟨_, PSs.nox (pss_cons (ps_set (i := 3) sc.nd rfl (Or.inl rfl) (pe_lst (pa_cons (pe_disp (pps_cons (pv 2) pe_bl pps_nil) (by rfl) (by rfl) (fun z => by cases z) (by decide)) pa_nil)))
      (pss_cons (ps_for PassesOwn.never rfl (RT.pi_revA rfl T.f_reversed (pv 1)) (pg_name (i := 4) sc.nd rfl (Or.inl rfl))
       (pss_cons (ps_set (i := 5) sc.nd rfl (Or.inl rfl) pe_dnewK)
        (pss_cons (ps_for PassesOwn.never rfl (pi_tup (pe_fld (pv 0) rfl)) (pg_name (i := 6) sc.nd rfl (Or.inl rfl))
         (pss_one (ps_if (PW.pt (pw_and (pt_cmpR op_eq (pe_ix ix_tup (pv 6) pe_int (fun _ _ => rfl)) (pv 4) (nomark _)) (pw_and1 (pt_cmp (pc_din hun (pe_ix ix_tup (pv 6) pe_int (fun _ _ => rfl)) (pe_ix ix_list (pv 3) (pe_un un_neg pe_int) (fun _ _ => rfl)))))))
           (pss_one (ps_dput hun (pv 5) (pe_ix ix_tup (pv 6) pe_int (fun _ _ => rfl)) pe_bl rfl))
           pss_nil)))
        (pss_one (ps_expr (pe_bm PySem.F.plainAttrs_list PySem.F.slot_list_append PySem.F.type_list_append mt_append (pv 3) (pa_cons (pv 5) pa_nil)))))))
      (pss_one (ps_ret (pe_revL (pv 3)))))), ?_⟩
  have hz1 : ts.length ≤ 1000 := hz1
  have hz2 : f.length ≤ 1000 := hz2
  have hv : pTiles K ts v H := hv
  obtain ⟨fa, rfl, hfa⟩ := is_dI.mp (show Is H u (dI f) from hu)
  refine q_asgL1 (P := pDk (good ts [])) (evp_disp1 (ev_var rfl) ev_c fun w => good_nil) fun gl x0 H1 hgl e1 hl1 hx0 => ?_
  have hlen : (f.map V.int).length = f.length := List.length_map _
  refine q_forRT (a := fa) (xs := f.map V.int) (ev_var rfl) (e1 _ _ hfa) (fun i σ' H' => Ex H H' ∧ ∃ (xs : List V) (z4 z5 z6 : Option V), H' gl = some (.lst xs) ∧ xs.length = i + 1 ∧ (∀ j, j ≤ i → ∃ x, xs[j]? = some x ∧ pDk (good ts (f.drop (f.length - j))) x H') ∧ σ' = [some v, some (.ref fa), some (.int 0), some (.ref gl), z4, z5, z6])
    (fun H2 e2 => ⟨e1.trans e2, [x0], none, none, none, e2 _ _ hl1, rfl, fun j hj => ⟨x0, by rw [show j = 0 by omega]; rfl, by rw [show j = 0 by omega, Nat.sub_zero, List.drop_length]; exact Mo.mo _ _ _ e2 hx0⟩, rfl⟩)
    (fun i σ' H' ⟨e2, _⟩ => e2 _ _ hfa) (fun i x σ' H' hi hx ⟨e2, xs, z4, z5, z6, hl, hxl, hall, es⟩ => ?_) fun σ' H' ⟨e2, xs, z4, z5, z6, hl, hxl, hall, es⟩ => ?_
  · subst es
    rw [hlen] at hi hx
    have hn : f.length - 1 - i < f.length := by omega
    have hs : (f.map V.int)[f.length - 1 - i]? = some (V.int f[f.length - 1 - i]) := by rw [List.getElem?_map, List.getElem?_eq_getElem hn]; rfl
    rw [hs] at hx
    obtain ⟨s', hs'⟩ : ∃ s', s' = f[f.length - 1 - i] := ⟨_, rfl⟩
    rw [← hs'] at hx
    obtain rfl : V.int s' = x := Option.some.inj hx
    have hdrop : f.drop (f.length - (i + 1)) = s' :: f.drop (f.length - i) := by
      have h1 : f.length - (i + 1) = f.length - 1 - i := by omega
      rw [h1, List.drop_eq_getElem_cons hn, ← hs']
      congr 2
      omega
    obtain ⟨x1, hx1, d1, kv1, rfl, hd1, hk1⟩ := hall i (Nat.le_refl _)
    refine ev_newK fun dd H3 hdd e3 hd3 => ?_
    refine q_forD (ds := ts.map dT) (evd_tiles T (ev_var rfl) (Mo.mo _ _ _ (e2.trans e3) hv)) (fun m σ2 H4 => Ex H' H4 ∧ ∃ (kvs : List (Key × V)) (z6 : Option V), H4 dd = some (.dK kvs) ∧ kvs.length ≤ m ∧ (∀ w : Int, (valV kvs (Sum.inl w)).isSome = (ts.take m).any fun t => decide (t.s = s') && good ts (f.drop (f.length - i)) t.e && decide (t.w = w)) ∧ σ2 = [some v, some (.ref fa), some (.int 0), some (.ref gl), some (.int s'), some (.ref dd), z6])
      (fun H4 e4 => ⟨e3.trans e4, [], z6, e4 _ _ hd3, Nat.le_refl _, fun w => rfl, rfl⟩) (fun H5 m d x σ2 H4 t5 hd hx ⟨e4, kvs, y6, h1, h2, h3, es⟩ => ?_) fun σ2 H4 ⟨e4, kvs, y6, h1, h2, h3, es⟩ => ?_
    · subst es
      obtain ⟨t, ht, rfl⟩ := tls_at hd
      have hm : m < ts.length := (List.getElem?_eq_some_iff.mp ht).1
      have hx : Is H4 x (dI [t.e, t.n, t.w, t.s]) := hx
      have hta : ∀ F : Tl → Bool, (ts.take (m + 1)).any F = ((ts.take m).any F || F t) := fun F => by
        rw [List.take_add_one, ht, List.any_append]
        simp
      refine s_when (b := decide (t.s = s') && good ts (f.drop (f.length - i)) t.e) (et_and (et_test (ev_eqI (ev_intT (j := 3) (evd_v rfl hx) ev_c rfl (by simp)) (ev_var rfl))) fun _ => et_B (ev_is (ev_dIn (z := t.e) (ev_intT (j := 0) (evd_v rfl hx) ev_c rfl (by simp)) (ev_ixV (ev_var rfl) (ev_un ev_c ru_neg) (e4 _ _ hl) (by rw [hxl]; exact ixN_last) hx1) (e4 _ _ hd1)) (by rw [hk1]))) (fun hb H6 e6 => ?_) fun hb H6 e6 => ?_
      · refine s_putK (z := t.w) ev_c (ev_var rfl) (ev_intT (j := 2) (evd_v rfl (hx.m (Tsm.ex e6))) ev_c rfl (by simp)) (e6 _ _ h1) (by omega) fun H7 e7 hd7 => ⟨(t5.trans (Tsm.ex (e6.trans e7))).trans (Tsm.updO hd7 fun _ z => nomatch z), Ex.mut ((e4.trans e6).trans e7) hdd, _, some x, upd_same, Nat.le_trans (length_putK _ _ _) (by omega), fun w => ?_, rfl⟩
        rw [valV_put, hta, hb, Bool.true_and, ← h3]
        by_cases hw : t.w = w
        · rw [if_pos (by rw [hw]), decide_eq_true hw, Bool.or_true]
          rfl
        · rw [if_neg (fun e => hw (Sum.inl.inj e).symm), decide_eq_false hw, Bool.or_false]
      · refine ⟨t5.trans (Tsm.ex e6), e4.trans e6, kvs, some x, e6 _ _ h1, by omega, fun w => ?_, rfl⟩
        rw [hta, hb, Bool.false_and, Bool.or_false]
        exact h3 w
    · subst es
      refine s_app (e4 _ _ hl) (ev_var rfl) (ev_var rfl) (by omega) fun H5 e5 => ⟨Ex.mut ((e2.trans e4).trans e5) hgl, xs ++ [.ref dd], _, _, _, upd_same, by simp [hxl], fun j hj => ?_, rfl⟩
      have hl5 := e5 _ _ (e4 _ _ hl)
      by_cases hji : j ≤ i
      · obtain ⟨y, hy, hpy⟩ := hall j hji
        refine ⟨y, ?_, pDk_updL (Mo.mo _ _ _ (e4.trans e5) hpy) hl5⟩
        rw [List.getElem?_append_left (by omega)]
        exact hy
      · have ej : j = i + 1 := by omega
        subst ej
        refine ⟨.ref dd, ?_, pDk_updL (g := good ts (f.drop (f.length - (i + 1)))) ⟨dd, kvs, rfl, e5 _ _ h1, fun w => ?_⟩ hl5⟩
        · rw [List.getElem?_append_right (by omega), hxl]
          simp
        · rw [h3, hdrop, good_cons, List.length_map, List.take_length]
  · subst es
    rw [hlen] at hxl hall
    refine s_retP (P := pGood ts f) (fun H3 e3 Q q => ⟨_, rfl, gl, xs, rfl, SqL.of (e3 _ _ hl), fun pr hp => q _ _ (Ex.new hp) ⟨pr, xs.reverse, rfl, upd_same, by rw [List.length_reverse, hxl], fun i hi => ?_⟩⟩) fun w H4 e4 p4 => k w H4 (e2.trans e4) p4
    obtain ⟨y, hy, d, kvs, rfl, hd, hk⟩ := hall (f.length - i) (by omega)
    refine ⟨d, kvs, ?_, by rw [upd_ne (ne_of_none (e3 _ _ hd) hp)]; exact e3 _ _ hd, fun w => ?_⟩
    · have hi : i ≤ f.length := hi
      rw [List.getElem?_reverse (by omega), hxl]
      rw [← hy]
      congr 1
    · rw [hk]
      have hi : i ≤ f.length := hi
      rw [show f.length - (f.length - i) = i by omega]
end
end SD
end
section
set_option Elab.async false
set_option linter.all false
set_option maxRecDepth 100000
set_option maxHeartbeats 4000000
namespace SD
open PySem L2 Evl SDR
section
variable {P : Program} {w : World} {K : PySem.W.Frag} {mg : Str → Option Value} {base : Heap}
theorem s_extN {σ : L2.St} {H : Hp} {ta te : TE} {D : Ends} {l : Addr} {xs : List V} {ds : List PyData} (hl : H l = some (.lst xs)) (ha : Ev ta σ H (.ref l)) (h : EvN te σ H ds) (hz : xs.length + ds.length ≤ 100000) (k : ∀ ys H1, Ex H H1 → H1 l = some (.lst xs) → Iss H1 ys ds → D.nx σ (upd H1 l (.lst (xs ++ ys)))) :
    tDrop (tBM K "list" rExtend ta (tCons te tNil)) D σ H := ha H (Ex.refl H) _ fun H1 e1 =>
  ⟨Or.inl ⟨rfl, xs, sq_of (e1 l _ hl)⟩, h H1 e1 _ fun b ys H2 _ e2 hb hy => ⟨l, b, xs, ys, rfl, rfl, e2 l _ (e1 l _ hl), hb, sz_of (by rw [hy.len]; exact hz), k ys H2 (e1.trans e2) (e2 l _ (e1 l _ hl)) hy⟩⟩
theorem q_extN {σ : L2.St} {H : Hp} {ta te : TE} {D : Ends} {tz : TS} {l : Addr} {xs : List V} {ds : List PyData} (hl : H l = some (.lst xs)) (ha : Ev ta σ H (.ref l)) (h : EvN te σ H ds) (hz : xs.length + ds.length ≤ 100000) (k : ∀ ys H1, Ex H H1 → H1 l = some (.lst xs) → Iss H1 ys ds → tz D σ (upd H1 l (.lst (xs ++ ys)))) :
    tSeq (tDrop (tBM K "list" rExtend ta (tCons te tNil))) tz D σ H := s_extN (D := { D with nx := tz D }) hl ha h hz k
theorem flatMap_take_len {α β : Type} (F : α → List β) : ∀ (l : List α) (m : Nat), ((l.take m).flatMap F).length ≤ (l.flatMap F).length
  | [], m => by simp
  | a :: l, 0 => by simp
  | a :: l, m + 1 => by
    rw [List.take_succ_cons, List.flatMap_cons, List.flatMap_cons, List.length_append, List.length_append]
    have := flatMap_take_len F l m
    omega
theorem dTs_snoc (r : List Tl) (t : Tl) : dTs (r ++ [t]) = .tuple (r.map dT ++ [dT t]) := by
  unfold dTs
  rw [List.map_append]
  rfl
def goF (ts : List Tl) (f : List Int) : PyData → Bool
  | .tuple (.int e :: _) => good ts f e
  | _ => false
def snD (r : List Tl) (d : PyData) : PyData := .tuple (r.map dT ++ [d])
theorem sub_eq (ts : List Tl) (f : List Int) (s : Int) (r : List Tl) : (((fit ts (eastOf r) s).map dT).filter (goF ts f)).map (snD r) = (fwSub ts s (good ts f) r).map dTs := by
  unfold fit fwSub
  rw [List.filter_map, List.filter_filter, List.map_map, List.map_map]
  have e1 : (fun a => (goF ts f ∘ dT) a && decide (a.w = eastOf r ∧ a.s = s)) = fun t : Tl => decide (t.w = eastOf r ∧ t.s = s) && good ts f t.e := by
    funext t
    rw [Bool.and_comm]
    rfl
  rw [e1]
  congr 1
  funext t
  show snD r (dT t) = dTs (r ++ [t])
  rw [dTs_snoc]
  rfl
theorem perm_one {α : Type} {l l' : List α} (h : l'.Perm l) (hl : l.length ≤ 1) : l' = l := by
  match l, hl with
  | [], _ => exact List.perm_nil.mp h
  | [a], _ => exact List.perm_singleton.mp h
theorem ev_isNstep {σ : L2.St} {H : Hp} {ta : TE} {ts : List Tl} {line : List Int} (ha : EvD ta σ H (stepD ts line)) : Ev (tOp (fun x y H Q => y = .non ∧ Q (.bl (decide (x = .non))) H) ta (tC .non)) σ H (.bl (stepO ts line).isNone) := by
  unfold stepD at ha
  cases hs : stepO ts line with
  | none => rw [hs] at ha; exact ev_isN ha
  | some l => rw [hs] at ha; exact ev_isN0 ha
theorem evd_nf {σ : L2.St} {H : Hp} {ta : TE} {E : XK} {row : List Tl} (ha : EvD ta σ H (dTs row)) (hl : row.length ≤ 1000) : EvD (tCall sp_next_floor [] E (tCons ta tNil)) σ H (dI (row.map (·.n))) := evp_call row hl (evps_cons (P := pD (dTs row)) ha evps_nil)
theorem evd_we {σ : L2.St} {H : Hp} {ta : TE} {E : XK} {ns : List Int} (ha : EvD ta σ H (dI ns)) (hl : ns.length ≤ 1000) : EvD (tCall sp_without_ends [] E (tCons ta tNil)) σ H (dI (woe ns)) := evp_call ns hl (evps_cons (P := pD (dI ns)) ha evps_nil)
-- rows_of_any_length: slots 0:tiles 1:floor 2:left 3:right 4:good 5:rows 6:at 7:south 8:longer 9:row 10:west 11:tile; level 2; callees Tiles.fitting, _reaching
theorem sc_rows_of_any_length : FnScope ["tiles", "floor", "left", "right", "good", "rows", "at", "south", "longer", "row", "west", "tile"] ["tiles", "floor", "left", "right"] (defScope s_rows_of_any_length) := ⟨rfl, rfl, rfl, by decide +kernel, rfl, by decide +kernel, by decide +kernel⟩
theorem ok_rows_of_any_length (T : Txt K mg) : FnOk P w K mg base CX0 2 (He.fAd K ("rows_of_any_length", none)) T.fd_rows_of_any_length ["tiles", "floor", "left", "right"] (sp_rows_of_any_length K) := by
  have G_Tiles_fitting := ok_Tiles_fitting (P := P) (w := w) (base := base) T
  have b_Tiles_fitting : Binds K T.fd_Tiles_fitting ["self", "west", "south"] [] := T.F_Tiles_fitting.bindsN fun _ _ _ _ _ _ us hl => match us, hl with | [_, _, _], _ => rfl
  have G_reaching := ok_reaching (P := P) (w := w) (base := base) T
  have b_reaching : Binds K T.fd_reaching ["tiles", "floor", "right"] [] := T.F_reaching.bindsN fun _ _ _ _ _ _ us hl => match us, hl with | [_, _, _], _ => rfl
  have sc := sc_rows_of_any_length
  refine T.F_rows_of_any_length.ok sc_rows_of_any_length (fun vs H Q E h => ?_) (fun cdv A outer s H vs Q E hr h => ?_)
  · unfold sp_rows_of_any_length at h
    obtain ⟨i, _, p, _⟩ := h
    exact p.len
  have hun := hu_of hr
  obtain ⟨⟨ts, f⟩, ⟨hA, hz1, hz2, hne⟩, p, k⟩ := h
  obtain ⟨v, u, _, _, rfl, hv, hu, rfl, rfl⟩ := pl4 p
  refine ⟨_, PSs.nox (pss_cons (ps_set (i := 4) sc.nd rfl (Or.inr rfl) (pe_call G_reaching (hr.mono (by decide)) rfl T.g_reaching T.F_reaching.kp b_reaching .nil pass0 (pa_cons (pv 0) (pa_cons (pv 1) (pa_cons (pv 3) pa_nil)))))
      (pss_cons (ps_if (pt_cmp (pc_dnotin hun (pv 2) (pe_ix ix_list (pv 4) pe_int (fun _ _ => rfl))))
       (pss_one (ps_ret (pe_lst pa_nil)))
       pss_nil)
      (pss_cons (ps_set (i := 5) sc.nd rfl (Or.inl rfl) (pe_lst (pa_cons (pe_tup pa_nil) pa_nil)))
      (pss_cons (ps_for PassesOwn.never rfl (pi_enumT rfl T.f_enumerate (pa_cons (pv 1) pa_nil)) (pg_tup rfl (pgs_cons (pg_name (i := 6) sc.nd rfl (Or.inr rfl)) (pgs_cons (pg_name (i := 7) sc.nd rfl (Or.inl rfl)) pgs_nil)))
       (pss_cons (ps_set (i := 8) sc.nd rfl (Or.inl rfl) (pe_lst pa_nil))
        (pss_cons (ps_for PassesOwn.never rfl (pi_list (pv 5)) (pg_name (i := 9) sc.nd rfl (Or.inr rfl))
         (pss_cons (ps_set (i := 10) sc.nd rfl (Or.inl rfl) (pe_ifExp (pt_truth (pv 9) (by intro _; rfl)) (pe_ix ix_tup (pe_ix ix_tup (pv 9) (pe_un un_neg pe_int) (fun _ _ => rfl)) pe_int (fun _ _ => rfl)) (pv 2)))
          (pss_cons (ps_expr (pe_bm PySem.F.plainAttrs_list PySem.F.slot_list_extend PySem.F.type_list_extend mt_extend (pv 8) (pa_cons (pe_lc (own := [("tile", 11)]) (g := gName 11) rfl sc.nd (pi_list (pe_meth (pv 0) T.c_Tiles T.m_Tiles_fitting G_Tiles_fitting (hr.mono (by decide)) b_Tiles_fitting .nil pass0 (pa_cons (pv 10) (pa_cons (pv 7) pa_nil)))) (blkOk_by (N := ["tiles", "floor", "left", "right", "good", "rows", "at", "south", "longer", "row", "west", "tile"]) (sc := defScope s_rows_of_any_length) (by decide +kernel)) (fun _ _ _ _ _ => pg_name (i := 11) sc.nd rfl (Or.inl rfl)) (fun _ _ _ _ _ => pts_one (pt_cmp (pc_din hun (pe_ix (ix_tupK K rfl) (pv 11) pe_int (fun _ _ => rfl)) (pe_ix (ix_listK K rfl) (pv 4) (pe_op op_add (pv 6) pe_int) (fun _ _ => rfl))))) (fun _ _ _ _ _ => (pe_op (op_catAK K rfl) (pv 9) (pe_tup (pa_cons (pv 11) pa_nil))))) pa_nil)))
          (pss_one (ps_if (pt_cmpR op_gt (pe_callB call_len_seq (by rfl) T.f_len (by decide +kernel) (pa_cons (pv 8) pa_nil)) (pe_glob (v := .int 2000) rfl T.i_MOST_ROWS ⟨_, rfl⟩) (nomark _))
           (pss_one (ps_never))
           pss_nil)))))
        (pss_one (ps_set (i := 5) sc.nd rfl (Or.inl rfl) (pv 8))))))
      (pss_one (ps_ret (pe_callB (cr_sortedD (hq_of hr (by decide))) (by rfl) T.f_sorted (by decide +kernel) (pa_cons (pv 5) pa_nil)))))))), ?_⟩
  have hA : Apart ts := hA
  have hz1 : ts.length ≤ 1000 := hz1
  have hz2 : f.length ≤ 1000 := hz2
  have hne : f ≠ [] := hne
  have hv : pTiles K ts v H := hv
  have hu : Is H u (dI f) := hu
  obtain ⟨fa, rfl, hfa⟩ := is_dI.mp hu
  refine q_asgP (evp_call (ts, f) ⟨hz1, hz2⟩ (evps_cons (P := pTiles K ts) (evp_var rfl hv) (evps_cons (P := pD (dI f)) (evp_var rfl hu) (evps_cons (evp (ev_var rfl)) evps_nil)))) fun gv H1 e1 hg => ?_
  obtain ⟨gl, gs, rfl, hgl, hgn, hg⟩ := (show pGood ts f gv H1 from hg)
  obtain ⟨d0, kv0, hg0, hd0', hk0⟩ := hg 0 (Nat.zero_le _)
  have hix0 : ixN gs.length 0 = some 0 := ixN_nat (n := gs.length) (j := 0) (by omega)
  refine q_when (b := !good ts f 0) (et_B (ev_is (ev_dNotIn (z := 0) (ev_var rfl) (ev_ixV (j := 0) (ev_var rfl) ev_c hgl hix0 hg0) hd0') (by rw [hk0]; rfl))) (fun hb H2 e2 => ?_) fun hb H2 e2 => ?_
  · have h0 : rowsF ts f 0 = [] := by
      by_cases h : rowsF ts f 0 = []
      · exact h
      · rw [good_iff.mpr h] at hb
        cases hb
    refine s_retP (P := pL []) (evp_n (evn_lst evds_nil (by simp))) fun w H3 e3 p3 => k w H3 ((e1.trans e2).trans e3) ?_
    show pL ((rowsF ts f 0).map dTs) w H3
    rw [h0]
    exact p3
  have hgood : good ts f 0 = true := by
    cases hg1 : good ts f 0 with
    | true => rfl
    | false => rw [hg1] at hb; cases hb
  refine q_asgN (evn_lst (evds_cons (d := dTs []) (evd_tup evds_nil (by simp)) evds_nil) (by simp)) fun ra0 xs0 H3 hra0 e3 hl3 hx3 => ?_
  refine q_forEnum (j1 := 6) (j2 := 7) (a := fa) (xs := f.map V.int) (ev_var rfl) (e3 _ _ (e2 _ _ (e1 _ _ hfa))) (fun i σ' H' => Ex H1 H' ∧ ∃ (ra : Addr) (xs : List V) (rs : List (List Tl)) (z6 z7 z8 z9 z10 z11 : Option V), fin ts (f.drop i) rs = rowsF ts f 0 ∧ (∀ r ∈ rs, good ts (f.drop i) (eastOf r) = true) ∧ (∀ r ∈ rs, r.length = i) ∧ H' ra = some (.lst xs) ∧ Iss H' xs (rs.map dTs) ∧
      σ' = [some v, some (.ref fa), some (.int 0), some (.int 0), some (.ref gl), some (.ref ra), z6, z7, z8, z9, z10, z11])
    (fun H4 e4 => ⟨(e2.trans e3).trans e4, ra0, xs0, [[]], none, none, none, none, none, none, fin_start ts f, fun r hr => by rw [List.mem_singleton.mp hr]; exact hgood, fun r hr => by rw [List.mem_singleton.mp hr]; rfl, e4 _ _ hl3, hx3.m (Tsm.ex e4), rfl⟩)
    (fun i σ' H' ⟨e4, _⟩ => e4 _ _ (e1 _ _ hfa)) (fun i x σ' H' H5 hx ⟨e4, ra, xs, rs, z6, z7, z8, z9, z10, z11, hfin, hgd, hrl, hl, hxs, es⟩ e5 => ?_) fun σ' H' ⟨e4, ra, xs, rs, z6, z7, z8, z9, z10, z11, hfin, hgd, hrl, hl, hxs, es⟩ => ?_
  · subst es
    obtain ⟨s', hs', rfl⟩ : ∃ s', f[i]? = some s' ∧ x = V.int s' := by
      rw [List.getElem?_map] at hx
      cases q : f[i]? with
      | none => rw [q] at hx; cases hx
      | some s' => rw [q] at hx; exact ⟨s', rfl, (Option.some.inj hx).symm⟩
    have hi : i < f.length := (List.getElem?_eq_some_iff.mp hs').1
    have hdrop : f.drop i = s' :: f.drop (i + 1) := by
      rw [List.drop_eq_getElem_cons hi, (List.getElem?_eq_some_iff.mp hs').2]
    rw [hdrop] at hfin
    rw [fin_step] at hfin
    have hone : (fwStep ts s' (good ts (f.drop (i + 1))) rs).length ≤ 1 := fw_le_one hA hfin fwStep_good
    have hsub : ∀ m, ((rs.take m).flatMap (fwSub ts s' (good ts (f.drop (i + 1))))).length ≤ 1 := fun m => Nat.le_trans (flatMap_take_len _ rs m) hone
    obtain ⟨d1, kv1, hg1, hd1, hk1⟩ := hg (i + 1) (by omega)
    have e14 := e4.trans e5
    have hix : ixN gs.length ((i : Int) + 1) = some (i + 1) := by
      have h := ixN_nat (n := gs.length) (j := i + 1) (by omega)
      rwa [show ((i + 1 : Nat) : Int) = (i : Int) + 1 by omega] at h
    refine q_asgN (evn_lst evds_nil (by simp)) fun la ls H6 hla e6 hl6 hx6 => ?_
    obtain rfl : ls = [] := by cases hx6; rfl
    refine q_forLn (a := ra) (xs := xs) (ev_var rfl) (SqL.of (e6 _ _ (e5 _ _ hl))) (fun m σ2 H7 => Ex H5 H7 ∧ ∃ (ls : List V) (z9 z10 z11 : Option V), H7 la = some (.lst ls) ∧ Iss H7 ls (((rs.take m).flatMap (fwSub ts s' (good ts (f.drop (i + 1))))).map dTs) ∧
        σ2 = [some v, some (.ref fa), some (.int 0), some (.int 0), some (.ref gl), some (.ref ra), some (.int (i : Int)), some (.int s'), some (.ref la), z9, z10, z11])
      (fun H7 e7 => ⟨e6.trans e7, [], z9, z10, z11, e7 _ _ hl6, .nil, rfl⟩) (fun m σ2 H7 _ ⟨e7, _⟩ => SqL.of (e7 _ _ (e5 _ _ hl))) (fun m x σ2 H7 hx ⟨e7, ls, y9, y10, y11, hl7, hx7, es⟩ => ?_) fun σ2 H7 ⟨e7, ls, y9, y10, y11, hl7, hx7, es⟩ => ?_
    · subst es
      obtain ⟨d, hd, hxd⟩ := hxs.get' hx
      obtain ⟨r, hr, rfl⟩ : ∃ r, rs[m]? = some r ∧ d = dTs r := by
        rw [List.getElem?_map] at hd
        cases q : rs[m]? with
        | none => rw [q] at hd; cases hd
        | some r => rw [q] at hd; exact ⟨r, rfl, (Option.some.inj hd).symm⟩
      have hrm := hrl r (List.mem_of_getElem? hr)
      have hxd : Is H7 x (.tuple (r.map dT)) := hxd.m (Tsm.ex (e5.trans e7))
      refine q_asgI (k := eastOf r) (ev_of (evp_if (b := !(r.map dT).isEmpty) (et_truT (evd_v rfl hxd)) (fun hb => ?_) fun hb => ?_)) fun H8 e8 => ?_
      · rcases List.eq_nil_or_concat r with rfl | ⟨r', t, rfl⟩
        · cases hb
        · rw [List.concat_eq_append, List.map_append] at hxd
          rw [List.concat_eq_append, eastOf_snoc]
          have h8 : EvD _ _ H7 (dI [t.e, t.n, t.w, t.s]) := evd_ixT (K := K) (evd_v (i := 9) (σ := [some v, some (.ref fa), some (.int 0), some (.int 0), some (.ref gl), some (.ref ra), some (.int (i : Int)), some (.int s'), some (.ref la), some x, y10, y11]) rfl hxd) (ev_un ev_c ru_neg) ix_last
          exact evp (ev_intT (j := 0) h8 ev_c rfl (by simp))
      · cases r with
        | nil => exact evp (ev_var rfl)
        | cons a r => cases hb
      · have hxd8 := hxd.m (Tsm.ex e8)
        have hl8 := e8 _ _ hl7
        have hx8 := hx7.m (Tsm.ex e8)
        have hfrom1 : Ex H1 H8 := (e14.trans e7).trans e8
        have hlen := hx8.len
        rw [List.length_map] at hlen
        have h9 := hsub m
        have h10 := hsub (m + 1)
        have htake : rs.take (m + 1) = rs.take m ++ [r] := by
          rw [List.take_add_one, hr]
          rfl
        rw [htake, List.flatMap_append] at h10
        have hone2 : (fwSub ts s' (good ts (f.drop (i + 1))) r).length ≤ 1 := by
          rw [List.length_append] at h10
          have : ([r].flatMap (fwSub ts s' (good ts (f.drop (i + 1))))).length = (fwSub ts s' (good ts (f.drop (i + 1))) r).length := by simp
          omega
        have hfit : (fit ts (eastOf r) s').length ≤ 1000 := Nat.le_trans (List.length_filter_le _ _) hz1
        have hcomp := evn_lcL (K := K) (σ := [some v, some (.ref fa), some (.int 0), some (.int 0), some (.ref gl), some (.ref ra), some (.int (i : Int)), some (.int s'), some (.ref la), some x, some (.int (eastOf r)), y11]) (goF ts (f.drop (i + 1))) (snD r)
          (evp_mTiles (E := E0) (m := "fitting") (pre := fun _ => True) (As := fun i : List Tl × Int × Int => [pTiles K i.1, pI i.2.1, pI i.2.2]) (R := fun i => pL ((fit i.1 i.2.1 i.2.2).map dT)) (ts, eastOf r, s') trivial (ev_var (i := 0) rfl) (Mo.mo _ _ _ (e1.trans hfrom1) hv) (evps_cons (evp (ev_var (i := 10) rfl)) (evps_cons (evp (ev_var (i := 7) rfl)) evps_nil)))
          (by rw [List.length_map]; exact Nat.le_trans hfit (by decide)) (vs := [11]) (g := gName 11) (t := tB (tDIn (tOp (rIxT K) (tVar 11) (tC (.int 0))) (tOp (rIxL K) (tVar 4) (tOp (rI0 fun i j => .int (i + j)) (tVar 6) (tC (.int 1)))))) (te := tOp (rCatA K) (tVar 9) (tTup (tCons (tVar 11) tNil)))
          (fun j d y H9 e9 hd hy => by
            obtain ⟨t, ht, rfl⟩ := tls_at hd
            have hy' : Is H9 y (dI [t.e, t.n, t.w, t.s]) := hy
            refine turn_name (j := 11) rfl (et_B (ev_is (ev_dIn (z := t.e) (ev_intT (j := 0) (evd_v rfl hy') ev_c rfl (by simp)) (ev_ixV (j := i + 1) (ev_var rfl) (ev_I (ev_var rfl) ev_c) (e9 _ _ (hfrom1 _ _ hgl)) hix hg1) (e9 _ _ (hfrom1 _ _ hd1))) ?_)) fun _ => evd_cat (evd_v rfl (hxd8.m (Tsm.ex e9))) (evd_tup (evds_cons (evd_v rfl hy) evds_nil) (by simp)) ?_
            · rw [hk1]
              rfl
            · simp
              omega)
        dsimp only at hcomp
        rw [sub_eq] at hcomp
        refine q_extN hl8 (ev_var rfl) hcomp ?_ fun ys H9 e9 hl9 hy9 => ?_
        · rw [hlen, List.length_map]
          omega
        · have hdata := ((hx8.m (Tsm.ex e9)).app hy9).m (Tsm.updL (o := .lst (ls ++ ys)) hl9)
          have hnew : ((rs.take m).flatMap (fwSub ts s' (good ts (f.drop (i + 1))))).map dTs ++ (fwSub ts s' (good ts (f.drop (i + 1))) r).map dTs = ((rs.take (m + 1)).flatMap (fwSub ts s' (good ts (f.drop (i + 1))))).map dTs := by
            rw [htake, List.flatMap_append, List.map_append]
            simp
          rw [hnew] at hdata
          have hlen2 := hdata.len
          rw [List.length_map, htake, List.flatMap_append] at hlen2
          refine s_when (b := false) (et_test (ev_is (ev_I (ev_lenL (evl_v rfl ⟨la, _, rfl, upd_same, hdata⟩)) ev_c) ?_)) (fun z => nomatch z) fun _ H10 e10 => ⟨(Ex.mut ((e7.trans e8).trans e9) hla).trans e10, _, _, _, _, e10 _ _ upd_same, hdata.m (Tsm.ex e10), rfl⟩
          rw [List.length_map, htake, List.flatMap_append, decide_eq_false (by omega)]
    · subst es
      have hxl : xs.length = rs.length := by rw [hxs.len, List.length_map]
      rw [hxl, List.take_length] at hx7
      refine s_asg (ev_var rfl) fun H8 e8 => ⟨(e14.trans e7).trans e8, la, ls, fwStep ts s' (good ts (f.drop (i + 1))) rs, _, _, _, _, _, _, hfin, fwStep_good, fun r hr => ?_, e8 _ _ hl7, hx7.m (Tsm.ex e8), rfl⟩
      obtain ⟨r0, h1, h2⟩ := List.mem_flatMap.mp hr
      obtain ⟨t, _, rfl⟩ := List.mem_map.mp h2
      rw [List.length_append, hrl r0 h1]
      rfl
  · subst es
    rw [List.length_map] at hfin hgd hrl
    rw [List.drop_length] at hfin hgd
    have hrs : rs = rowsF ts f 0 := by
      rw [← hfin]
      exact (fin_nil fun r hr => by have := hgd r hr; rw [good_nil] at this; exact of_decide_eq_true this).symm
    have h1 := rows_le_one hA f
    rw [← hrs] at h1
    refine s_retP (evp_sorted (evl_v rfl ⟨ra, xs, rfl, hl, hxs⟩) ?_ ?_ ?_) fun w H4 e6 p4 => k w H4 ((e1.trans e4).trans e6) ?_
    · intro d hd d' hd'
      obtain ⟨r, _, rfl⟩ := List.mem_map.mp hd
      obtain ⟨r', _, rfl⟩ := List.mem_map.mp hd'
      exact alike_dTs r r'
    · refine .inl fun d hd => ?_
      obtain ⟨r, hr, rfl⟩ := List.mem_map.mp hd
      have h2 := hrl r hr
      cases r with
      | nil =>
        exfalso
        exact hne (List.eq_nil_of_length_eq_zero h2.symm)
      | cons t r => exact ⟨_, _, rfl⟩
    · intro d hd
      obtain ⟨r, _, rfl⟩ := List.mem_map.mp hd
      exact dep_dTs r
    · obtain ⟨ds', hp, hl'⟩ := p4
      have hds := perm_one hp (by rw [List.length_map]; exact h1)
      rw [hds, hrs] at hl'
      exact hl'
-- Strip._rows: slots 0:self 1:floor; level 3; callees rows_of_any_length
theorem sc_Strip_rows : FnScope ["self", "floor"] ["self", "floor"] (defScope s_Strip_rows) := ⟨rfl, rfl, rfl, by decide +kernel, rfl, by decide +kernel, by decide +kernel⟩
theorem ok_Strip_rows (T : Txt K mg) : FnOk P w K mg base CX0 3 (He.fAd K ("Strip", some "_rows")) T.fd_Strip_rows ["self", "floor"] (sp_Strip_rows K) := by
  have G_rows_of_any_length := ok_rows_of_any_length (P := P) (w := w) (base := base) T
  have b_rows_of_any_length : Binds K T.fd_rows_of_any_length ["tiles", "floor", "left", "right"] [] := T.F_rows_of_any_length.bindsN fun _ _ _ _ _ _ us hl => match us, hl with | [_, _, _, _], _ => rfl
  have sc := sc_Strip_rows
  refine T.F_Strip_rows.ok sc_Strip_rows (fun vs H Q E h => ?_) (fun cdv A outer s H vs Q E hr h => ?_)
  · unfold sp_Strip_rows at h
    obtain ⟨i, _, p, _⟩ := h
    exact p.len
  obtain ⟨⟨ts, f⟩, hz, p, k⟩ := h
  obtain ⟨v, u, rfl, hv, hu⟩ := pl2 p
  refine ⟨_, PSs.nox (pss_one (ps_try_thru0 (pss_one (ps_ret (pe_call G_rows_of_any_length (hr.mono (by decide)) rfl T.g_rows_of_any_length T.F_rows_of_any_length.kp b_rows_of_any_length .nil pass0 (pa_cons (pe_fld (pv 0) rfl) (pa_cons (pv 1) (pa_cons pe_int (pa_cons pe_int pa_nil))))))))), ?_⟩
  have hv : pStrip K ts v H := hv
  obtain ⟨tv, h1, h2⟩ := strip_tiles T hv
  exact s_retP (P := pL ((rowsF ts f 0).map dTs)) (evp_call (ts, f) hz (evps_cons (P := pTiles K ts) (evp_is (h2 (Ex.refl H) (ev_var rfl)) h1) (evps_cons (P := pD (dI f)) (evp_var rfl hu) (evps_cons (evp ev_c) (evps_cons (evp ev_c) evps_nil))))) k
-- Strip.step: slots 0:self 1:configuration 2:found; level 4; callees Strip._rows, next_floor, without_ends
theorem sc_Strip_step : FnScope ["self", "configuration", "found"] ["self", "configuration"] (defScope s_Strip_step) := ⟨rfl, rfl, rfl, by decide +kernel, rfl, by decide +kernel, by decide +kernel⟩
theorem ok_Strip_step (T : Txt K mg) : FnOk P w K mg base CX0 4 (He.fAd K ("Strip", some "step")) T.fd_Strip_step ["self", "configuration"] (sp_Strip_step K) := by
  have G_Strip_rows := ok_Strip_rows (P := P) (w := w) (base := base) T
  have b_Strip_rows : Binds K T.fd_Strip_rows ["self", "floor"] [] := T.F_Strip_rows.bindsN fun _ _ _ _ _ _ us hl => match us, hl with | [_, _], _ => rfl
  have G_next_floor := ok_next_floor (P := P) (w := w) (base := base) T
  have b_next_floor : Binds K T.fd_next_floor ["row"] [] := T.F_next_floor.bindsN fun _ _ _ _ _ _ us hl => match us, hl with | [_], _ => rfl
  have G_without_ends := ok_without_ends (P := P) (w := w) (base := base) T
  have b_without_ends : Binds K T.fd_without_ends ["row"] [] := T.F_without_ends.bindsN fun _ _ _ _ _ _ us hl => match us, hl with | [_], _ => rfl
  have sc := sc_Strip_step
  refine T.F_Strip_step.ok sc_Strip_step (fun vs H Q E h => ?_) (fun cdv A outer s H vs Q E hr h => ?_)
  · unfold sp_Strip_step at h
    obtain ⟨i, _, p, _⟩ := h
    exact p.len
  obtain ⟨⟨ts, line⟩, ⟨hA, hz1, hz2⟩, p, k⟩ := h
  obtain ⟨v, u, rfl, hv, hu⟩ := pl2 p
  refine ⟨_, PSs.nox (pss_cons (ps_set (i := 2) sc.nd rfl (Or.inl rfl) (pe_meth (pv 0) T.c_Strip T.m_Strip_rows G_Strip_rows (hr.mono (by decide)) b_Strip_rows .nil pass0 (pa_cons (pe_op op_catA (pe_op op_catA (pe_tup (pa_cons pe_int pa_nil)) (pv 1)) (pe_tup (pa_cons pe_int pa_nil))) pa_nil)))
      (pss_cons (ps_if (pt_cmpR op_gt (pe_callB call_len_seq (by rfl) T.f_len (by decide +kernel) (pa_cons (pv 2) pa_nil)) pe_int (nomark _))
       (pss_one (ps_never))
       pss_nil)
      (pss_one (ps_ret (pe_ifExp (pt_truth (pv 2) (by intro _; rfl)) (pe_call G_without_ends (hr.mono (by decide)) rfl T.g_without_ends T.F_without_ends.kp b_without_ends .nil pass0 (pa_cons (pe_call G_next_floor (hr.mono (by decide)) rfl T.g_next_floor T.F_next_floor.kp b_next_floor .nil pass0 (pa_cons (pe_ix ix_list (pv 2) pe_int (fun _ _ => rfl)) pa_nil)) pa_nil)) pe_non))))), ?_⟩
  have hA : Apart ts := hA
  have hz1 : ts.length ≤ 1000 := hz1
  have hz2 : line.length ≤ 900 := hz2
  have hv : pStrip K ts v H := hv
  have hu : Is H u (dI line) := hu
  have hfl : (fl line).length = line.length + 2 := by unfold fl; simp
  refine q_asgP (evp_mStrip (ts := ts) (ts, fl line) ⟨hA, hz1, by show (fl line).length ≤ 1000; omega, by unfold fl; simp⟩ (ev_var rfl) hv (evps_cons (P := pD (dI (fl line))) (evd_eq (evd_cat (evd_cat (evd_tup (evds_cons (evd_int ev_c) evds_nil) (by simp)) (evd_v rfl hu) ?_) (evd_tup (evds_cons (evd_int ev_c) evds_nil) (by simp)) ?_) ?_) evps_nil)) fun r H1 e1 hr => ?_
  · simp
    omega
  · simp
    omega
  · unfold fl
    simp [dI]
  have hr : pL ((rowsF ts (fl line) 0).map dTs) r H1 := hr
  have h1 := rows_le_one hA (fl line)
  refine q_when (b := false) (et_test (ev_is (ev_I (ev_lenL (evl_v rfl hr)) ev_c) (by rw [List.length_map, decide_eq_false (by omega)]))) (fun z => nomatch z) fun _ H2 e2 => ?_
  have hr2 : pL ((rowsF ts (fl line) 0).map dTs) r H2 := Mo.mo _ _ _ e2 hr
  refine s_retP (P := pD (stepD ts line)) (evp_if (b := !((rowsF ts (fl line) 0).map dTs).isEmpty) (et_truL (evl_v rfl hr2)) (fun hb => ?_) fun hb => ?_) fun w H3 e3 p3 => k w H3 ((e1.trans e2).trans e3) p3
  · cases hrows : rowsF ts (fl line) 0 with
    | nil => rw [hrows] at hb; cases hb
    | cons row rest =>
      have hstep : stepD ts line = dI (woe (row.map (·.n))) := by
        unfold stepD stepO
        rw [hrows]
      have hmem : row ∈ rowsF ts (fl line) 0 := by rw [hrows]; simp
      have hlen := isR_len (mem_rowsF.mp hmem)
      rw [hrows] at hr2
      rw [hstep]
      exact evd_we (evd_nf (evd_ixL (evl_v rfl hr2) ev_c ⟨0, ixN_nat (by simp), rfl⟩) (by omega)) (by rw [List.length_map]; omega)
  · cases hrows : rowsF ts (fl line) 0 with
    | nil =>
      have hstep : stepD ts line = .none := by
        unfold stepD stepO
        rw [hrows]
      rw [hstep]
      exact evp_is ev_c .non
    | cons row rest => rw [hrows] at hb; cases hb
-- Strip.stopped: slots 0:self 1:configuration; level 5; callees Strip.step
theorem sc_Strip_stopped : FnScope ["self", "configuration"] ["self", "configuration"] (defScope s_Strip_stopped) := ⟨rfl, rfl, rfl, by decide +kernel, rfl, by decide +kernel, by decide +kernel⟩
theorem ok_Strip_stopped (T : Txt K mg) : FnOk P w K mg base CX0 5 (He.fAd K ("Strip", some "stopped")) T.fd_Strip_stopped ["self", "configuration"] (sp_Strip_stopped K) := by
  have G_Strip_step := ok_Strip_step (P := P) (w := w) (base := base) T
  have b_Strip_step : Binds K T.fd_Strip_step ["self", "configuration"] [] := T.F_Strip_step.bindsN fun _ _ _ _ _ _ us hl => match us, hl with | [_, _], _ => rfl
  have sc := sc_Strip_stopped
  refine T.F_Strip_stopped.ok sc_Strip_stopped (fun vs H Q E h => ?_) (fun cdv A outer s H vs Q E hr h => ?_)
  · unfold sp_Strip_stopped at h
    obtain ⟨i, _, p, _⟩ := h
    exact p.len
  obtain ⟨⟨ts, line⟩, hz, p, k⟩ := h
  obtain ⟨v, u, rfl, hv, hu⟩ := pl2 p
  refine ⟨_, PSs.nox (pss_one (ps_ret (pe_cmpR op_isN (pe_meth (pv 0) T.c_Strip T.m_Strip_step G_Strip_step (hr.mono (by decide)) b_Strip_step .nil pass0 (pa_cons (pv 1) pa_nil)) pe_non (nomark _)))), ?_⟩
  have hv : pStrip K ts v H := hv
  refine s_retP (P := pB (stepO ts line).isNone) (evp (ev_isNstep (evp_mStrip (ts := ts) (ts, line) hz (ev_var rfl) hv (evps_cons (P := pD (dI line)) (evp_var rfl hu) evps_nil)))) k
-- Strip.run: slots 0:self 1:configuration 2:steps 3:count 4:after; level 5; callees Strip.step
theorem sc_Strip_run : FnScope ["self", "configuration", "steps", "count", "after"] ["self", "configuration", "steps"] (defScope s_Strip_run) := ⟨rfl, rfl, rfl, by decide +kernel, rfl, by decide +kernel, by decide +kernel⟩
theorem ok_Strip_run (T : Txt K mg) : FnOk P w K mg base CX0 5 (He.fAd K ("Strip", some "run")) T.fd_Strip_run ["self", "configuration", "steps"] (sp_Strip_run K) := by
  have G_Strip_step := ok_Strip_step (P := P) (w := w) (base := base) T
  have b_Strip_step : Binds K T.fd_Strip_step ["self", "configuration"] [] := T.F_Strip_step.bindsN fun _ _ _ _ _ _ us hl => match us, hl with | [_, _], _ => rfl
  have sc := sc_Strip_run
  refine T.F_Strip_run.ok sc_Strip_run (fun vs H Q E h => ?_) (fun cdv A outer s H vs Q E hr h => ?_)
  · unfold sp_Strip_run at h
    obtain ⟨i, _, p, _⟩ := h
    exact p.len
  obtain ⟨⟨ts, line, n⟩, ⟨hA, hz1, hz2⟩, p, k⟩ := h
  dsimp only at p
  obtain ⟨v, u, _, rfl, hv, hu, rfl⟩ := pl3 p
  refine ⟨_, PSs.nox (pss_cons (ps_for PassesOwn.never rfl (pi_range1 rfl T.f_range (pa_cons (pv 2) pa_nil)) (pg_name (i := 3) sc.nd rfl (Or.inl rfl))
       (pss_cons (ps_set (i := 4) sc.nd rfl (Or.inl rfl) (pe_meth (pv 0) T.c_Strip T.m_Strip_step G_Strip_step (hr.mono (by decide)) b_Strip_step .nil pass0 (pa_cons (pv 1) pa_nil)))
        (pss_cons (ps_if (pt_cmpR op_isN (pv 4) pe_non (nomark _))
         (pss_one (ps_ret (pe_tup (pa_cons (pv 1) (pa_cons (pv 3) pa_nil)))))
         pss_nil)
        (pss_one (ps_set (i := 1) sc.nd rfl (Or.inl rfl) (pv 4))))))
      (pss_one (ps_ret (pe_tup (pa_cons (pv 1) (pa_cons (pv 2) pa_nil)))))), ?_⟩
  have hA : Apart ts := hA
  have hz1 : ts.length ≤ 1000 := hz1
  have hz2 : line.length + 2 * n ≤ 900 := hz2
  have hv : pStrip K ts v H := hv
  have hu : Is H u (dI line) := hu
  refine q_forR1 (j := 3) (n := (n : Int)) (ea_cons (ev_var rfl) ea_nil) ⟨by omega, by omega⟩ (fun i σ' H' => Ex H H' ∧ ∃ (l' : List Int) (y : V) (z3 z4 : Option V), l'.length ≤ line.length + 2 * i ∧ runO ts n line = ((runO ts (n - i) l').1, (runO ts (n - i) l').2 + i) ∧ Is H' y (dI l') ∧ σ' = [some v, some y, some (.int (n : Int)), z3, z4])
    (fun H1 e1 => ⟨e1, line, u, none, none, by omega, rfl, hu.m (Tsm.ex e1), rfl⟩) (fun i σ' H' hi ⟨e1, l', y, z3, z4, hl, hrun, hy, es⟩ => ?_) fun σ' H' ⟨e1, l', y, z3, z4, hl, hrun, hy, es⟩ => ?_
  · subst es
    have hn1 : n - i = (n - (i + 1)) + 1 := by omega
    refine q_asgP (evp_mStrip (ts := ts) (ts, l') ⟨hA, hz1, by show l'.length ≤ 900; omega⟩ (ev_var rfl) (Mo.mo _ _ _ e1 hv) (evps_cons (P := pD (dI l')) (evp_var rfl hy) evps_nil)) fun r H2 e2 hr => ?_
    have hr : Is H2 r (stepD ts l') := hr
    cases hs : stepO ts l' with
    | none =>
      have hd : stepD ts l' = .none := by unfold stepD; rw [hs]
      rw [hd] at hr
      have hr0 : runO ts (n - i) l' = (l', 0) := by
        rw [hn1]
        unfold runO
        rw [hs]
      refine q_when (b := true) (et_test (ev_isN (evd_v rfl hr))) (fun _ H3 e3 => ?_) fun z => nomatch z
      refine s_retP (P := pD (.tuple [dI l', .int (i : Int)])) (evd_tup (evds_cons (evd_v rfl (hy.m (Tsm.ex (e2.trans e3)))) (evds_cons (evd_int (ev_var rfl)) evds_nil)) (by simp)) fun w H4 e4 p4 => k w H4 (((e1.trans e2).trans e3).trans e4) ?_
      show Is H4 w (.tuple [dI (runO ts n line).1, .int ((runO ts n line).2 : Int)])
      rw [hrun, hr0]
      simp only [Nat.zero_add]
      exact p4
    | some l2 =>
      have hd : stepD ts l' = dI l2 := by unfold stepD; rw [hs]
      rw [hd] at hr
      have hl2 := stepO_len hs
      have hr0 : runO ts (n - i) l' = ((runO ts (n - (i + 1)) l2).1, (runO ts (n - (i + 1)) l2).2 + 1) := by
        rw [hn1]
        conv => lhs; unfold runO
        rw [hs]
      refine q_when (b := false) (et_test (ev_isN0 (evd_v rfl hr))) (fun z => nomatch z) fun _ H3 e3 => ?_
      refine s_asg (ev_var rfl) fun H4 e4 => ⟨((e1.trans e2).trans e3).trans e4, l2, r, _, _, by omega, ?_, hr.m (Tsm.ex (e3.trans e4)), rfl⟩
      rw [hrun, hr0]
      simp only
      congr 1
      omega
  · subst es
    have h0 : n - ((n : Int)).toNat = 0 := by omega
    rw [h0] at hrun
    refine s_retP (P := pD (.tuple [dI l', .int (n : Int)])) (evd_tup (evds_cons (evd_v rfl hy) (evds_cons (evd_int (ev_var rfl)) evds_nil)) (by simp)) fun w H4 e4 p4 => k w H4 (e1.trans e4) ?_
    show Is H4 w (.tuple [dI (runO ts n line).1, .int ((runO ts n line).2 : Int)])
    rw [hrun]
    have h1 : (runO ts 0 l') = (l', 0) := rfl
    rw [h1]
    simp only [Int.toNat_natCast, Nat.zero_add]
    exact p4
end
end SD
end
section
set_option Elab.async false
set_option linter.all false
set_option maxRecDepth 100000
set_option maxHeartbeats 4000000
namespace SD
open PySem L2 Evl SDR
section
variable {P : Program} {w : World} {K : PySem.W.Frag} {mg : Str → Option Value} {base : Heap}
theorem evd_t4 {σ : L2.St} {H : Hp} {t1 t2 t3 t4 : TE} {a b c d : Int} (h1 : Ev t1 σ H (.int a)) (h2 : Ev t2 σ H (.int b)) (h3 : Ev t3 σ H (.int c)) (h4 : Ev t4 σ H (.int d)) : EvD (tTup (tCons t1 (tCons t2 (tCons t3 (tCons t4 tNil))))) σ H (dT ⟨a, b, c, d⟩) :=
  evd_tup (evds_cons (evd_int h1) (evds_cons (evd_int h2) (evds_cons (evd_int h3) (evds_cons (evd_int h4) evds_nil)))) (by simp)
def blD : PyData → PyData
  | .int z => dT ⟨0, z, 0, z⟩
  | d => d
theorem bl_eq (n : Nat) : ((upto n).filter fun _ => true).map blD = (blanks n).map dT := by
  unfold upto blanks
  rw [List.filter_eq_self.mpr (fun _ _ => rfl), List.map_map, List.map_map]
  rfl
/-- append to a list that is new since H -/
theorem s_appD {σ : L2.St} {H H' : Hp} {ta te : TE} {D : Ends} {l : Addr} {ys : List V} {ds : List PyData} {d : PyData} (e : Ex H H') (hn : H l = none) (hl : H' l = some (.lst ys)) (hx : Iss H' ys ds) (ha : Ev ta σ H' (.ref l)) (h : EvD te σ H' d) (hz : ds.length < 100000)
    (k : ∀ zs H1, Ex H H1 → Tsm H' H1 → H1 l = some (.lst zs) → Iss H1 zs (ds ++ [d]) → D.nx σ H1) : tDrop (tBM K "list" rAppend ta (tCons te tNil)) D σ H' :=
  s_appP hl ha h (by rw [hx.len]; exact hz) fun v H1 e1 p => k _ _ (Ex.mut (e.trans e1) hn) ((Tsm.ex e1).trans (Tsm.updL (e1 _ _ hl))) upd_same (((hx.m (Tsm.ex e1)).snoc p).m (Tsm.updL (e1 _ _ hl)))
theorem q_appD {σ : L2.St} {H H' : Hp} {ta te : TE} {D : Ends} {tz : TS} {l : Addr} {ys : List V} {ds : List PyData} {d : PyData} (e : Ex H H') (hn : H l = none) (hl : H' l = some (.lst ys)) (hx : Iss H' ys ds) (ha : Ev ta σ H' (.ref l)) (h : EvD te σ H' d) (hz : ds.length < 100000)
    (k : ∀ zs H1, Ex H H1 → Tsm H' H1 → H1 l = some (.lst zs) → Iss H1 zs (ds ++ [d]) → tz D σ H1) : tSeq (tDrop (tBM K "list" rAppend ta (tCons te tNil))) tz D σ H' := s_appD (D := { D with nx := tz D }) e hn hl hx ha h hz k
theorem cell_len {M : Mach} (h : M.Ok) {q a : Nat} (hq : q ≤ M.s.toNat) (ha : a ≤ 16) : (M.tilesN q ++ M.tilesQ q a).length ≤ 2000 := by
  have h1 := tilesN_976 h hq
  have h2 := tilesQ_len (M := M) (q : Int) a
  rw [List.length_append]
  omega
theorem cell_none {M : Mach} {q a : Nat} (h : M.row q a = none) : ((M.tilesN q ++ M.tilesQ q a).map dT ++ [dT ⟨0, M.L a q, 1 + 2 * q, a⟩]) ++ [dT ⟨2 + 2 * q, M.L a q, 0, a⟩] = (M.tilesN q ++ M.tilesQ q (a + 1)).map dT := by
  rw [tilesQ_succ]
  unfold Mach.cellT
  rw [h]
  simp [rowT]
theorem cell_one {M : Mach} {q a : Nat} {wr af : Int} (h : M.row q a = some (wr, 1, af)) : (((M.tilesN q ++ M.tilesQ q a).map dT ++ [dT ⟨0, M.L a q, 1 + 2 * q, a⟩]) ++ [dT ⟨2 + 2 * q, M.L a q, 0, a⟩]) ++ [dT ⟨1 + 2 * af, wr, 0, M.L a q⟩] = (M.tilesN q ++ M.tilesQ q (a + 1)).map dT := by
  rw [tilesQ_succ]
  unfold Mach.cellT
  rw [h]
  simp [rowT]
theorem cell_two {M : Mach} {q a : Nat} {wr af : Int} (h : M.row q a = some (wr, -1, af)) : (((M.tilesN q ++ M.tilesQ q a).map dT ++ [dT ⟨0, M.L a q, 1 + 2 * q, a⟩]) ++ [dT ⟨2 + 2 * q, M.L a q, 0, a⟩]) ++ [dT ⟨0, wr, 2 + 2 * af, M.L a q⟩] = (M.tilesN q ++ M.tilesQ q (a + 1)).map dT := by
  rw [tilesQ_succ]
  unfold Mach.cellT
  rw [h]
  simp [rowT]
theorem perm_map_inv {α β : Type} (f : α → β) : ∀ {ds es : List β}, ds.Perm es → ∀ l : List α, es = l.map f → ∃ l' : List α, l'.Perm l ∧ ds = l'.map f := by
  intro ds es h
  induction h with
  | nil => intro l e; exact ⟨[], by rw [List.map_eq_nil_iff.mp e.symm], rfl⟩
  | cons x _ ih =>
    intro l e
    cases l with
    | nil => cases e
    | cons a l =>
      rw [List.map_cons] at e
      injection e with e1 e2
      obtain ⟨l', h1, h2⟩ := ih l e2
      exact ⟨a :: l', h1.cons a, by rw [List.map_cons, ← e1, h2]⟩
  | swap x y l0 =>
    intro l e
    match l, e with
    | a :: b :: l, e =>
      rw [List.map_cons, List.map_cons] at e
      injection e with e1 e2
      injection e2 with e3 e4
      exact ⟨b :: a :: l, List.Perm.swap a b l, by rw [List.map_cons, List.map_cons, ← e1, ← e3, ← e4]⟩
  | trans _ _ ih1 ih2 =>
    intro l e
    obtain ⟨l1, h1, h2⟩ := ih2 l e
    obtain ⟨l2, h3, h4⟩ := ih1 l1 h2
    exact ⟨l2, h3.trans h1, h4⟩
/-- tuple(sorted(tiles)) -/
theorem evp_tupTiles {σ : L2.St} {H : Hp} {ta : TE} {ts : List Tl} (ha : EvP ta σ H (pL (ts.map dT))) :
    EvP (tCB (fun xs H Q => ∃ p ys, xs = [.ref p] ∧ ((SqL K H p ys ∧ ∀ l, H l = none → Q (.ref l) (upd H l (.tup ys))) ∨ (SqT K H p ys ∧ Q (.ref p) H))) (tCons (tCB (rSortedD K) (tCons ta tNil)) tNil)) σ H (pEx (fun ts' : List Tl => ts'.Perm ts) fun ts' => pD (dTs ts')) := fun H1 e Q q =>
  evp_sorted ha (fun d hd d' hd' => by
    obtain ⟨t, _, rfl⟩ := List.mem_map.mp hd
    obtain ⟨t', _, rfl⟩ := List.mem_map.mp hd'
    exact alike_dT t t') (.inl fun d hd => by
    obtain ⟨t, _, rfl⟩ := List.mem_map.mp hd
    exact ⟨_, _, rfl⟩) (fun d hd => by
    obtain ⟨t, _, rfl⟩ := List.mem_map.mp hd
    have := dep_dI [t.e, t.n, t.w, t.s]
    unfold dT
    omega) H1 e _ fun x H2 e2 ⟨ds', hp, a, xs, ex, g1, g2⟩ => by
    obtain ⟨ts', h1, rfl⟩ := perm_map_inv dT hp ts rfl
    exact ⟨a, xs, by rw [ex], .inl ⟨SqL.of g1, fun l hl => q _ _ (e2.trans (Ex.new hl)) ⟨ts', h1, .tup upd_same (g2.m (Tsm.ex (Ex.new hl)))⟩⟩⟩
-- tiles_of: slots 0:machine 1:marks 2:mark 3:found 4:state 5:head 6:row; level 3; callees Tape.row, letter_of
theorem sc_tiles_of : FnScope ["machine", "marks", "mark", "found", "state", "head", "row"] ["machine"] (defScope s_tiles_of) := ⟨rfl, rfl, rfl, by decide +kernel, rfl, by decide +kernel, by decide +kernel⟩
theorem ok_tiles_of (T : Txt K mg) : FnOk P w K mg base CX0 3 (He.fAd K ("tiles_of", none)) T.fd_tiles_of ["machine"] (sp_tiles_of K) := by
  have G_Tape_row := ok_Tape_row (P := P) (w := w) (base := base) T
  have b_Tape_row : Binds K T.fd_Tape_row ["self", "state", "mark"] [] := T.F_Tape_row.bindsN fun _ _ _ _ _ _ us hl => match us, hl with | [_, _, _], _ => rfl
  have G_letter_of := ok_letter_of (P := P) (w := w) (base := base) T
  have b_letter_of : Binds K T.fd_letter_of ["marks", "mark", "state"] [] := T.F_letter_of.bindsN fun _ _ _ _ _ _ us hl => match us, hl with | [_, _, _], _ => rfl
  have sc := sc_tiles_of
  refine T.F_tiles_of.ok sc_tiles_of (fun vs H Q E h => ?_) (fun cdv A outer s H vs Q E hr h => ?_)
  · unfold sp_tiles_of at h
    obtain ⟨i, _, p, _⟩ := h
    exact p.len
  obtain ⟨M, hM, p, k⟩ := h
  obtain ⟨v, rfl, hv⟩ := pl1 p
  refine ⟨_, PSs.nox (pss_cons (ps_set (i := 1) sc.nd rfl (Or.inl rfl) (pe_fld (pv 0) rfl))
      (pss_cons (ps_setLc (i := 3) (own := [("mark", 2)]) (g := gName 2) (tt := tYes) rfl sc.nd rfl rfl (sw_true rfl rfl rfl (by decide +kernel)) (pi_range1 rfl T.f_range (pa_cons (pv 1) pa_nil)) (blkOk_by (N := ["machine", "marks", "mark", "found", "state", "head", "row"]) (sc := defScope s_tiles_of) (by decide +kernel)) (fun _ _ _ _ _ => pg_name (i := 2) sc.nd rfl (Or.inl rfl)) (fun _ _ _ _ _ => pts_nil) (fun _ _ _ _ _ => (pe_tup (pa_cons pe_int (pa_cons (pv 2) (pa_cons pe_int (pa_cons (pv 2) pa_nil)))))))
      (pss_cons (ps_for PassesOwn.never rfl (pi_range1 rfl T.f_range (pa_cons (pe_fld (pv 0) rfl) pa_nil)) (pg_name (i := 4) sc.nd rfl (Or.inl rfl))
       (pss_one (ps_for PassesOwn.never rfl (pi_range1 rfl T.f_range (pa_cons (pv 1) pa_nil)) (pg_name (i := 2) sc.nd rfl (Or.inl rfl))
         (pss_cons (ps_set (i := 5) sc.nd rfl (Or.inl rfl) (pe_call G_letter_of (hr.mono (by decide)) rfl T.g_letter_of T.F_letter_of.kp b_letter_of .nil pass0 (pa_cons (pv 1) (pa_cons (pv 2) (pa_cons (pv 4) pa_nil)))))
          (pss_cons (ps_expr (pe_bm PySem.F.plainAttrs_list PySem.F.slot_list_append PySem.F.type_list_append mt_append (pv 3) (pa_cons (pe_tup (pa_cons pe_int (pa_cons (pv 5) (pa_cons (pe_op op_add pe_int (pe_op op_mul pe_int (pv 4))) (pa_cons (pv 2) pa_nil))))) pa_nil)))
          (pss_cons (ps_expr (pe_bm PySem.F.plainAttrs_list PySem.F.slot_list_append PySem.F.type_list_append mt_append (pv 3) (pa_cons (pe_tup (pa_cons (pe_op op_add pe_int (pe_op op_mul pe_int (pv 4))) (pa_cons (pv 5) (pa_cons pe_int (pa_cons (pv 2) pa_nil))))) pa_nil)))
          (pss_cons (ps_set (i := 6) sc.nd rfl (Or.inl rfl) (pe_meth (pv 0) T.c_Tape T.m_Tape_row G_Tape_row (hr.mono (by decide)) b_Tape_row .nil pass0 (pa_cons (pv 4) (pa_cons (pv 2) pa_nil))))
          (pss_one (ps_if (PW.pt (pw_and (pt_cmpR op_notN (pv 6) pe_non (nomark _)) (pw_and1 (pt_cmpR op_eq (pe_ix ix_tup (pv 6) pe_int (fun _ _ => rfl)) pe_int (nomark _)))))
           (pss_one (ps_expr (pe_bm PySem.F.plainAttrs_list PySem.F.slot_list_append PySem.F.type_list_append mt_append (pv 3) (pa_cons (pe_tup (pa_cons (pe_op op_add pe_int (pe_op op_mul pe_int (pe_ix ix_tup (pv 6) pe_int (fun _ _ => rfl)))) (pa_cons (pe_ix ix_tup (pv 6) pe_int (fun _ _ => rfl)) (pa_cons pe_int (pa_cons (pv 5) pa_nil))))) pa_nil))))
           (pss_one (ps_if (pt_cmpR op_notN (pv 6) pe_non (nomark _))
             (pss_one (ps_expr (pe_bm PySem.F.plainAttrs_list PySem.F.slot_list_append PySem.F.type_list_append mt_append (pv 3) (pa_cons (pe_tup (pa_cons pe_int (pa_cons (pe_ix ix_tup (pv 6) pe_int (fun _ _ => rfl)) (pa_cons (pe_op op_add pe_int (pe_op op_mul pe_int (pe_ix ix_tup (pv 6) pe_int (fun _ _ => rfl)))) (pa_cons (pv 5) pa_nil))))) pa_nil))))
             pss_nil)))))))))))
      (pss_one (ps_ret (pv 3)))))), ?_⟩
  have hM : M.Ok := hM
  have hv : pTape K M v H := hv
  have m2 := hM.m2
  have m16 := hM.m16
  have s1 := hM.s1
  have s20 := hM.s20
  refine q_asgI (ev_marks T (ev_var rfl) hv) fun H1 e1 => ?_
  refine q_asgN (evn_lcR (n := M.m) (fun _ => true) blD (ea_cons (ev_var rfl) ea_nil) (by omega) (by omega) fun i H2 e2 hi => turn_name (j := 2) rfl et_yes fun _ => evd_t4 ev_c (ev_var rfl) ev_c (ev_var rfl)) fun pn xs H2 hpn e2 hl2 hx2 => ?_
  rw [bl_eq] at hx2
  have hn : H pn = none := fresh_back e1 hpn
  have h00 : M.tilesN 0 = blanks M.m.toNat := by simp [Mach.tilesN]
  refine q_forR1 (j := 4) (n := M.s) (ea_cons (ev_states T (ev_var rfl) (Mo.mo _ _ _ (e1.trans e2) hv)) ea_nil) ⟨by omega, by omega⟩ (fun qq σ' H' => Ex H H' ∧ ∃ (ys : List V) (z2 z4 z5 z6 : Option V), H' pn = some (.lst ys) ∧ Iss H' ys ((M.tilesN qq).map dT) ∧ σ' = [some v, some (.int M.m), z2, some (.ref pn), z4, z5, z6])
    (fun H3 e3 => ⟨(e1.trans e2).trans e3, xs, none, none, none, none, e3 _ _ hl2, by rw [h00]; exact hx2.m (Tsm.ex e3), rfl⟩) (fun qq σ' H' hq ⟨e3, ys, z2, z4, z5, z6, hl, hx, es⟩ => ?_) fun σ' H' ⟨e3, ys, z2, z4, z5, z6, hl, hx, es⟩ => ?_
  · subst es
    refine s_forR1 (j := 2) (n := M.m) (ea_cons (ev_var rfl) ea_nil) ⟨by omega, by omega⟩ (fun aa σ2 H4 => Ex H H4 ∧ ∃ (ys : List V) (z2 z5 z6 : Option V), H4 pn = some (.lst ys) ∧ Iss H4 ys ((M.tilesN qq ++ M.tilesQ qq aa).map dT) ∧ σ2 = [some v, some (.int M.m), z2, some (.ref pn), some (.int (qq : Int)), z5, z6])
      (fun H4 e4 => ⟨e3.trans e4, ys, z2, z5, z6, e4 _ _ hl, by rw [show M.tilesQ qq 0 = [] from rfl, List.append_nil]; exact hx.m (Tsm.ex e4), rfl⟩) (fun aa σ2 H4 ha ⟨e4, ys, y2, y5, y6, hl, hx, es⟩ => ?_) fun σ2 H4 ⟨e4, ys, y2, y5, y6, hl, hx, es⟩ => ?_
    · subst es
      have hlen := cell_len hM (q := qq) (a := aa) (by omega) (by omega)
      refine q_asgI (k := M.L aa qq) (ev_of (evp_call (M.m, (aa : Int), (qq : Int)) ⟨by omega, by omega⟩ (evps_cons (evp (ev_var rfl)) (evps_cons (evp (ev_var rfl)) (evps_cons (evp (ev_var rfl)) evps_nil))))) fun H5 e5 => ?_
      refine q_appD (d := dT ⟨0, M.L aa qq, 1 + 2 * qq, aa⟩) (e4.trans e5) hn (e5 _ _ hl) (hx.m (Tsm.ex e5)) (ev_var rfl) (evd_t4 ev_c (ev_var rfl) (ev_I ev_c (ev_mul ev_c (ev_var rfl) (cm_l (by omega)))) (ev_var rfl)) (by rw [List.length_map]; omega) fun ys6 H6 e6 t6 hl6 hx6 => ?_
      refine q_appD (d := dT ⟨2 + 2 * qq, M.L aa qq, 0, aa⟩) e6 hn hl6 hx6 (ev_var rfl) (evd_t4 (ev_I ev_c (ev_mul ev_c (ev_var rfl) (cm_l (by omega)))) (ev_var rfl) ev_c (ev_var rfl)) (by rw [List.length_append, List.length_map]; simp only [List.length_singleton]; omega) fun ys7 H7 e7 t7 hl7 hx7 => ?_
      have q0 : (0 : Int) ≤ (qq : Int) := by omega
      have a0 : (0 : Int) ≤ (aa : Int) := by omega
      refine q_asgP (evp_mTape (M := M) (M, (qq : Int), (aa : Int)) ⟨hM, q0, hq, a0, ha⟩ (ev_var rfl) (Mo.mo _ _ _ e7 hv) (evps_cons (evp (ev_var rfl)) (evps_cons (evp (ev_var rfl)) evps_nil))) fun r H8 e8 hr => ?_
      have hr : Is H8 r (dRow (M.row qq aa)) := hr
      have hro := row_ok hM q0 hq a0 ha
      have hx8 := hx7.m (Tsm.ex e8)
      have hl8 := e8 _ _ hl7
      have e08 := e7.trans e8
      cases hrow : M.row qq aa with
      | none =>
        rw [hrow] at hr
        rw [cell_none hrow] at hx8
        refine s_if (b := false) (et_and (b := true) (et_test (ev_notN0 (evd_v rfl hr))) fun z => nomatch z) (fun z => nomatch z) fun _ H9 e9 => ?_
        refine s_when (b := false) (et_test (ev_notN0 (evd_v rfl (hr.m (Tsm.ex e9))))) (fun z => nomatch z) fun _ H10 e10 => ⟨(e08.trans e9).trans e10, _, _, _, _, e10 _ _ (e9 _ _ hl8), hx8.m (Tsm.ex (e9.trans e10)), rfl⟩
      | some row =>
        obtain ⟨wr, mv, af⟩ := row
        rw [hrow] at hr
        have hr : Is H8 r (dI [wr, mv, af]) := hr
        obtain ⟨r1, r2, r3, r4, r5⟩ := hro wr mv af hrow
        rcases r3 with rfl | rfl
        · refine s_if (b := true) (et_is (et_and (et_test (ev_notN (evd_v rfl hr))) fun _ => et_test (ev_eqI (ev_intT (j := 1) (evd_v rfl hr) ev_c rfl (by simp)) ev_c)) rfl) (fun _ H9 e9 => ?_) fun z => nomatch z
          have hr9 := hr.m (Tsm.ex e9)
          refine s_appD (d := dT ⟨1 + 2 * af, wr, 0, M.L aa qq⟩) (e08.trans e9) hn (e9 _ _ hl8) (hx8.m (Tsm.ex e9)) (ev_var rfl) (evd_t4 (ev_I ev_c (ev_mul ev_c (ev_intT (j := 2) (evd_v rfl hr9) ev_c rfl (by simp)) (cm_l (by omega)))) (ev_intT (j := 0) (evd_v rfl hr9) ev_c rfl (by simp)) ev_c (ev_var rfl)) (by rw [List.length_append, List.length_append, List.length_map]; simp only [List.length_singleton]; omega) fun ys10 H10 e10 t10 hl10 hx10 => ⟨e10, ys10, _, _, _, hl10, ?_, rfl⟩
          rw [cell_one hrow] at hx10
          exact hx10
        · refine s_if (b := false) (et_is (et_and (et_test (ev_notN (evd_v rfl hr))) fun _ => et_test (ev_eqI (ev_intT (j := 1) (evd_v rfl hr) ev_c rfl (by simp)) ev_c)) rfl) (fun z => nomatch z) fun _ H9 e9 => ?_
          have hr9 := hr.m (Tsm.ex e9)
          refine s_when (b := true) (et_test (ev_notN (evd_v rfl hr9))) (fun _ H11 e11 => ?_) fun z => nomatch z
          have hr11 := hr9.m (Tsm.ex e11)
          refine s_appD (d := dT ⟨0, wr, 2 + 2 * af, M.L aa qq⟩) ((e08.trans e9).trans e11) hn (e11 _ _ (e9 _ _ hl8)) (hx8.m (Tsm.ex (e9.trans e11))) (ev_var rfl) (evd_t4 ev_c (ev_intT (j := 0) (evd_v rfl hr11) ev_c rfl (by simp)) (ev_I ev_c (ev_mul ev_c (ev_intT (j := 2) (evd_v rfl hr11) ev_c rfl (by simp)) (cm_l (by omega)))) (ev_var rfl)) (by rw [List.length_append, List.length_append, List.length_map]; simp only [List.length_singleton]; omega) fun ys10 H10 e10 t10 hl10 hx10 => ⟨e10, ys10, _, _, _, hl10, ?_, rfl⟩
          rw [cell_two hrow] at hx10
          exact hx10
    · subst es
      refine ⟨e4, ys, _, _, _, _, hl, ?_, rfl⟩
      rw [tilesN_succ]
      exact hx
  · subst es
    exact s_retP (P := pL (M.tiles.map dT)) (evl_v rfl ⟨pn, ys, rfl, hl, hx⟩) fun w H4 e4 p4 => k w H4 (e3.trans e4) p4
-- _law_tiles: slots 0:_law_machine 1:_law_mark 2:_law_tiles_here 3:_law_state 4:_law_head 5:_law_row; level 3; callees Tape.row, _law_letter
theorem sc_law_tiles : FnScope ["_law_machine", "_law_mark", "_law_tiles_here", "_law_state", "_law_head", "_law_row"] ["_law_machine"] (defScope s_law_tiles) := ⟨rfl, rfl, rfl, by decide +kernel, rfl, by decide +kernel, by decide +kernel⟩
theorem ok_law_tiles (T : Txt K mg) : FnOk P w K mg base CX0 3 (He.fAd K ("_law_tiles", none)) T.fd_law_tiles ["_law_machine"] (sp_law_tiles K) := by
  have G_Tape_row := ok_Tape_row (P := P) (w := w) (base := base) T
  have b_Tape_row : Binds K T.fd_Tape_row ["self", "state", "mark"] [] := T.F_Tape_row.bindsN fun _ _ _ _ _ _ us hl => match us, hl with | [_, _, _], _ => rfl
  have G_law_letter := ok_law_letter (P := P) (w := w) (base := base) T
  have b_law_letter : Binds K T.fd_law_letter ["_law_machine", "_law_mark", "_law_state"] [] := T.F_law_letter.bindsN fun _ _ _ _ _ _ us hl => match us, hl with | [_, _, _], _ => rfl
  have sc := sc_law_tiles
  refine T.F_law_tiles.ok sc_law_tiles (fun vs H Q E h => ?_) (fun cdv A outer s H vs Q E hr h => ?_)
  · unfold sp_law_tiles at h
    obtain ⟨i, _, p, _⟩ := h
    exact p.len
  have hun := hu_of hr
  obtain ⟨M, hM, p, k⟩ := h
  obtain ⟨v, rfl, hv⟩ := pl1 p
  refine ⟨_, PSs.nox (pss_cons (ps_setLc (i := 2) (own := [("_law_mark", 1)]) (g := gName 1) (tt := tYes) rfl sc.nd rfl rfl (sw_true rfl rfl rfl (by decide +kernel)) (pi_range1 rfl T.f_range (pa_cons (pe_fld (pv 0) rfl) pa_nil)) (blkOk_by (N := ["_law_machine", "_law_mark", "_law_tiles_here", "_law_state", "_law_head", "_law_row"]) (sc := defScope s_law_tiles) (by decide +kernel)) (fun _ _ _ _ _ => pg_name (i := 1) sc.nd rfl (Or.inl rfl)) (fun _ _ _ _ _ => pts_nil) (fun _ _ _ _ _ => (pe_tup (pa_cons pe_int (pa_cons (pv 1) (pa_cons pe_int (pa_cons (pv 1) pa_nil)))))))
      (pss_cons (ps_for PassesOwn.never rfl (pi_range1 rfl T.f_range (pa_cons (pe_fld (pv 0) rfl) pa_nil)) (pg_name (i := 3) sc.nd rfl (Or.inl rfl))
       (pss_one (ps_for PassesOwn.never rfl (pi_range1 rfl T.f_range (pa_cons (pe_fld (pv 0) rfl) pa_nil)) (pg_name (i := 1) sc.nd rfl (Or.inl rfl))
         (pss_cons (ps_set (i := 4) sc.nd rfl (Or.inl rfl) (pe_call G_law_letter (hr.mono (by decide)) rfl T.g_law_letter T.F_law_letter.kp b_law_letter .nil pass0 (pa_cons (pv 0) (pa_cons (pv 1) (pa_cons (pv 3) pa_nil)))))
          (pss_cons (ps_set (i := 2) sc.nd rfl (Or.inl rfl) (pe_op op_cat (pv 2) (pe_lst (pa_cons (pe_tup (pa_cons pe_int (pa_cons (pv 4) (pa_cons (pe_op op_add pe_int (pe_op op_mul pe_int (pv 3))) (pa_cons (pv 1) pa_nil))))) (pa_cons (pe_tup (pa_cons (pe_op op_add pe_int (pe_op op_mul pe_int (pv 3))) (pa_cons (pv 4) (pa_cons pe_int (pa_cons (pv 1) pa_nil))))) pa_nil)))))
          (pss_cons (ps_set (i := 5) sc.nd rfl (Or.inl rfl) (pe_meth (pv 0) T.c_Tape T.m_Tape_row G_Tape_row (hr.mono (by decide)) b_Tape_row .nil pass0 (pa_cons (pv 3) (pa_cons (pv 1) pa_nil))))
          (pss_cons (ps_if (PW.pt (pw_and (pt_cmpR op_notN (pv 5) pe_non (nomark _)) (pw_and1 (pt_cmpR op_eq (pe_ix ix_tup (pv 5) pe_int (fun _ _ => rfl)) pe_int (nomark _)))))
           (pss_one (ps_expr (pe_bm PySem.F.plainAttrs_list PySem.F.slot_list_append PySem.F.type_list_append mt_append (pv 2) (pa_cons (pe_tup (pa_cons (pe_op op_add pe_int (pe_op op_mul pe_int (pe_ix ix_tup (pv 5) pe_int (fun _ _ => rfl)))) (pa_cons (pe_ix ix_tup (pv 5) pe_int (fun _ _ => rfl)) (pa_cons pe_int (pa_cons (pv 4) pa_nil))))) pa_nil))))
           pss_nil)
          (pss_one (ps_if (PW.pt (pw_and (pt_cmpR op_notN (pv 5) pe_non (nomark _)) (pw_and1 (pt_cmpR op_eq (pe_ix ix_tup (pv 5) pe_int (fun _ _ => rfl)) (pe_un un_neg pe_int) (nomark _)))))
           (pss_one (ps_expr (pe_bm PySem.F.plainAttrs_list PySem.F.slot_list_append PySem.F.type_list_append mt_append (pv 2) (pa_cons (pe_tup (pa_cons pe_int (pa_cons (pe_ix ix_tup (pv 5) pe_int (fun _ _ => rfl)) (pa_cons (pe_op op_add pe_int (pe_op op_mul pe_int (pe_ix ix_tup (pv 5) pe_int (fun _ _ => rfl)))) (pa_cons (pv 4) pa_nil))))) pa_nil))))
           pss_nil)))))))))
      (pss_one (ps_ret (pe_callTy call_tuple_of (by rfl) T.f_tuple (by decide +kernel) (pa_cons (pe_callB (cr_sortedD (hq_of hr (by decide))) (by rfl) T.f_sorted (by decide +kernel) (pa_cons (pv 2) pa_nil)) pa_nil)))))), ?_⟩
  have hM : M.Ok := hM
  have hv : pTape K M v H := hv
  have m2 := hM.m2
  have m16 := hM.m16
  have s1 := hM.s1
  have s20 := hM.s20
  refine q_asgN (evn_lcR (n := M.m) (fun _ => true) blD (ea_cons (ev_marks T (ev_var rfl) hv) ea_nil) (by omega) (by omega) fun i H2 e2 hi => turn_name (j := 1) rfl et_yes fun _ => evd_t4 ev_c (ev_var rfl) ev_c (ev_var rfl)) fun pn xs H2 hpn e2 hl2 hx2 => ?_
  rw [bl_eq] at hx2
  have h00 : M.tilesN 0 = blanks M.m.toNat := by simp [Mach.tilesN]
  refine q_forR1 (j := 3) (n := M.s) (ea_cons (ev_states T (ev_var rfl) (Mo.mo _ _ _ e2 hv)) ea_nil) ⟨by omega, by omega⟩ (fun qq σ' H' => Ex H H' ∧ ∃ (pn : Addr) (ys : List V) (z1 z3 z4 z5 : Option V), H pn = none ∧ H' pn = some (.lst ys) ∧ Iss H' ys ((M.tilesN qq).map dT) ∧ σ' = [some v, z1, some (.ref pn), z3, z4, z5])
    (fun H3 e3 => ⟨e2.trans e3, pn, xs, none, none, none, none, hpn, e3 _ _ hl2, by rw [h00]; exact hx2.m (Tsm.ex e3), rfl⟩) (fun qq σ' H' hq ⟨e3, pn, ys, z1, z3, z4, z5, hpn, hl, hx, es⟩ => ?_) fun σ' H' ⟨e3, pn, ys, z1, z3, z4, z5, hpn, hl, hx, es⟩ => ?_
  · subst es
    refine s_forR1 (j := 1) (n := M.m) (ea_cons (ev_marks T (ev_var rfl) (Mo.mo _ _ _ e3 hv)) ea_nil) ⟨by omega, by omega⟩ (fun aa σ2 H4 => Ex H H4 ∧ ∃ (pn : Addr) (ys : List V) (z1 z4 z5 : Option V), H pn = none ∧ H4 pn = some (.lst ys) ∧ Iss H4 ys ((M.tilesN qq ++ M.tilesQ qq aa).map dT) ∧ σ2 = [some v, z1, some (.ref pn), some (.int (qq : Int)), z4, z5])
      (fun H4 e4 => ⟨e3.trans e4, pn, ys, z1, z4, z5, hpn, e4 _ _ hl, by rw [show M.tilesQ qq 0 = [] from rfl, List.append_nil]; exact hx.m (Tsm.ex e4), rfl⟩) (fun aa σ2 H4 ha ⟨e4, pn, ys, y1, y4, y5, hpn, hl, hx, es⟩ => ?_) fun σ2 H4 ⟨e4, pn, ys, y1, y4, y5, hpn, hl, hx, es⟩ => ?_
    · subst es
      have hlen := cell_len hM (q := qq) (a := aa) (by omega) (by omega)
      refine q_asgI (k := M.L aa qq) (ev_of (evp_call (M, (aa : Int), (qq : Int)) hM (evps_cons (evp_var (P := pTape K M) rfl (Mo.mo _ _ _ e4 hv)) (evps_cons (evp (ev_var rfl)) (evps_cons (evp (ev_var rfl)) evps_nil))))) fun H5 e5 => ?_
      refine q_asgN (evn_cat (evl_v rfl ⟨pn, ys, rfl, e5 _ _ hl, hx.m (Tsm.ex e5)⟩) (evp_n (evn_lst (evds_cons (d := dT ⟨0, M.L aa qq, 1 + 2 * qq, aa⟩) (evd_t4 ev_c (ev_var rfl) (ev_I ev_c (ev_mul ev_c (ev_var rfl) (cm_l (by omega)))) (ev_var rfl)) (evds_cons (d := dT ⟨2 + 2 * qq, M.L aa qq, 0, aa⟩) (evd_t4 (ev_I ev_c (ev_mul ev_c (ev_var rfl) (cm_l (by omega)))) (ev_var rfl) ev_c (ev_var rfl)) evds_nil)) (by simp))) (by rw [List.length_map]; simp only [List.length_cons, List.length_nil]; omega)) fun pm ys7 H7 hpm e7 hl7 hx7 => ?_
      have hn : H pm = none := fresh_back (e4.trans e5) hpm
      have hsplit : ∀ (l : List PyData) (a b : PyData), l ++ [a, b] = (l ++ [a]) ++ [b] := fun l a b => by simp
      rw [hsplit] at hx7
      have q0 : (0 : Int) ≤ (qq : Int) := by omega
      have a0 : (0 : Int) ≤ (aa : Int) := by omega
      refine q_asgP (evp_mTape (M := M) (M, (qq : Int), (aa : Int)) ⟨hM, q0, hq, a0, ha⟩ (ev_var rfl) (Mo.mo _ _ _ ((e4.trans e5).trans e7) hv) (evps_cons (evp (ev_var rfl)) (evps_cons (evp (ev_var rfl)) evps_nil))) fun r H8 e8 hr => ?_
      have hr : Is H8 r (dRow (M.row qq aa)) := hr
      have hro := row_ok hM q0 hq a0 ha
      have hx8 := hx7.m (Tsm.ex e8)
      have hl8 := e8 _ _ hl7
      have e08 := ((e4.trans e5).trans e7).trans e8
      cases hrow : M.row qq aa with
      | none =>
        rw [hrow] at hr
        rw [cell_none hrow] at hx8
        refine q_when (b := false) (et_and (b := true) (et_test (ev_notN0 (evd_v rfl hr))) fun z => nomatch z) (fun z => nomatch z) fun _ H9 e9 => ?_
        refine s_when (b := false) (et_and (b := true) (et_test (ev_notN0 (evd_v rfl (hr.m (Tsm.ex e9))))) fun z => nomatch z) (fun z => nomatch z) fun _ H10 e10 => ⟨(e08.trans e9).trans e10, pm, _, _, _, _, hn, e10 _ _ (e9 _ _ hl8), hx8.m (Tsm.ex (e9.trans e10)), rfl⟩
      | some row =>
        obtain ⟨wr, mv, af⟩ := row
        rw [hrow] at hr
        have hr : Is H8 r (dI [wr, mv, af]) := hr
        obtain ⟨r1, r2, r3, r4, r5⟩ := hro wr mv af hrow
        rcases r3 with rfl | rfl
        · refine q_when (b := true) (et_is (et_and (et_test (ev_notN (evd_v rfl hr))) fun _ => et_test (ev_eqI (ev_intT (j := 1) (evd_v rfl hr) ev_c rfl (by simp)) ev_c)) rfl) (fun _ H9 e9 => ?_) fun z => nomatch z
          have hr9 := hr.m (Tsm.ex e9)
          refine s_appD (d := dT ⟨1 + 2 * af, wr, 0, M.L aa qq⟩) (e08.trans e9) hn (e9 _ _ hl8) (hx8.m (Tsm.ex e9)) (ev_var rfl) (evd_t4 (ev_I ev_c (ev_mul ev_c (ev_intT (j := 2) (evd_v rfl hr9) ev_c rfl (by simp)) (cm_l (by omega)))) (ev_intT (j := 0) (evd_v rfl hr9) ev_c rfl (by simp)) ev_c (ev_var rfl)) (by rw [List.length_append, List.length_append, List.length_map]; simp only [List.length_singleton]; omega) fun ys10 H10 e10 t10 hl10 hx10 => ?_
          have hr10 := hr9.m t10
          rw [cell_one hrow] at hx10
          refine s_when (b := false) (et_is (et_and (et_test (ev_notN (evd_v rfl hr10))) fun _ => et_test (ev_eqI (ev_intT (j := 1) (evd_v rfl hr10) ev_c rfl (by simp)) (ev_un ev_c ru_neg))) rfl) (fun z => nomatch z) fun _ H11 e11 => ⟨e10.trans e11, pm, ys10, _, _, _, hn, e11 _ _ hl10, hx10.m (Tsm.ex e11), rfl⟩
        · refine q_when (b := false) (et_is (et_and (et_test (ev_notN (evd_v rfl hr))) fun _ => et_test (ev_eqI (ev_intT (j := 1) (evd_v rfl hr) ev_c rfl (by simp)) ev_c)) rfl) (fun z => nomatch z) fun _ H9 e9 => ?_
          have hr9 := hr.m (Tsm.ex e9)
          refine s_when (b := true) (et_is (et_and (et_test (ev_notN (evd_v rfl hr9))) fun _ => et_test (ev_eqI (ev_intT (j := 1) (evd_v rfl hr9) ev_c rfl (by simp)) (ev_un ev_c ru_neg))) rfl) (fun _ H11 e11 => ?_) fun z => nomatch z
          have hr11 := hr9.m (Tsm.ex e11)
          refine s_appD (d := dT ⟨0, wr, 2 + 2 * af, M.L aa qq⟩) ((e08.trans e9).trans e11) hn (e11 _ _ (e9 _ _ hl8)) (hx8.m (Tsm.ex (e9.trans e11))) (ev_var rfl) (evd_t4 ev_c (ev_intT (j := 0) (evd_v rfl hr11) ev_c rfl (by simp)) (ev_I ev_c (ev_mul ev_c (ev_intT (j := 2) (evd_v rfl hr11) ev_c rfl (by simp)) (cm_l (by omega)))) (ev_var rfl)) (by rw [List.length_append, List.length_append, List.length_map]; simp only [List.length_singleton]; omega) fun ys10 H10 e10 t10 hl10 hx10 => ⟨e10, pm, ys10, _, _, _, hn, hl10, ?_, rfl⟩
          rw [cell_two hrow] at hx10
          exact hx10
    · subst es
      refine ⟨e4, pn, ys, _, _, _, _, hpn, hl, ?_, rfl⟩
      rw [tilesN_succ]
      exact hx
  · subst es
    exact s_retP (evp_tupTiles (ts := M.tiles) (evl_v rfl ⟨pn, ys, rfl, hl, hx⟩)) fun w H4 e4 p4 => k w H4 (e3.trans e4) p4
end
end SD
end
section
set_option Elab.async false
set_option linter.all false
set_option maxRecDepth 100000
set_option maxHeartbeats 4000000
namespace SD
open PySem L2 Evl SDR
section
variable {P : Program} {w : World} {K : PySem.W.Frag} {mg : Str → Option Value} {base : Heap}
def mdD (m : Int) : PyData → PyData
  | .int z => .int (z % m)
  | d => d
theorem md_eq (ks : List Int) (m : Int) : ((ks.map PyData.int).filter fun _ => true).map (mdD m) = (ks.map fun z => z % m).map PyData.int := by
  rw [List.filter_eq_self.mpr (fun _ _ => rfl), List.map_map, List.map_map]
  rfl
theorem marks_mod {ks : List Int} {m : Int} (h : 0 < m) : Marks m (ks.map fun z => z % m) := fun x hx => by
  obtain ⟨z, _, rfl⟩ := List.mem_map.mp hx
  exact ⟨Int.emod_nonneg _ (by omega), Int.emod_lt_of_pos _ h⟩
theorem digs_at {n : Nat} {m : Int} {ns : List Int} (h : digs n m ns) {j : Nat} (hj : j < n) : 0 ≤ ns.getD j 0 ∧ ns.getD j 0 < m := by
  have hj' : j < ns.length := by rw [h.1]; exact hj
  rw [List.getD_eq_getElem?_getD, List.getElem?_eq_getElem hj']
  exact h.2 _ (List.getElem_mem hj')
/-- the marks of one side: some of the digits, each by the machine's marks -/
theorem evs_side (T : Txt K mg) {σ : L2.St} {H : Hp} {M : Mach} {v u : V} {ns : List Int} {a : Nat} {k : Nat} {hi : TE} (hM : M.Ok) (h0 : σ[0]? = some (some v)) (h2 : σ[2]? = some (some u)) (h5 : wipe (wipe σ [5]) [5] = wipe σ [5]) (hw0 : (wipe σ [5])[0]? = some (some v)) (hs5 : ∀ x, wipe ((wipe σ [5]).set 5 (some x)) [5] = wipe σ [5])
    (hv0 : ∀ x, ((wipe σ [5]).set 5 (some x))[0]? = some (some v)) (hv5 : ∀ x, ((wipe σ [5]).set 5 (some x))[5]? = some (some x)) (hv : pTape K M v H) (hu : pL (ns.map .int) u H) (hns : ns.length = 16) (ha : a ≤ 16) (hk : a + k ≤ 16) (hhi : Ev hi σ H (.int ((a + k : Nat) : Int))) :
    EvN (tLc (iList K (tSl (rSlL K) (tVar 2) (tPart (tC (.int (a : Int)))) (tPart hi))) (gName 5) tYes (tOp (rI (fun _ j => 0 < j) fun i j => .int (i % j)) (tVar 5) (tFld K (tVar 0) "marks")) [5]) σ H ((((ns.drop a).take k).map fun z => z % M.m).map PyData.int) := by
  have hl : ((ns.map PyData.int).drop a).take k = ((ns.drop a).take k).map PyData.int := by rw [← List.map_drop, ← List.map_take]
  have h := evn_lcL (K := K) (g := gName 5) (t := tYes) (vs := [5]) (te := tOp (rI (fun _ j => 0 < j) fun i j => .int (i % j)) (tVar 5) (tFld K (tVar 0) "marks")) (fun _ => true) (mdD M.m) (evp_n (evn_sl (K := K) (evl_v h2 hu) (eo_some (ev_c (v := .int (a : Int)))) (eo_some hhi))) (by
      rw [cut_mid (by rw [List.length_map]; omega) (by rw [List.length_map]; omega), List.length_take, List.length_drop, List.length_map]
      omega) (fun i d x H1 e1 hd hx => by
      rw [cut_mid (by rw [List.length_map]; omega) (by rw [List.length_map]; omega), Nat.add_sub_cancel_left, hl, List.getElem?_map] at hd
      cases q : ((ns.drop a).take k)[i]? with
      | none => rw [q] at hd; cases hd
      | some z =>
        rw [q] at hd
        obtain rfl : PyData.int z = d := Option.some.inj hd
        obtain rfl := is_int.mp hx
        exact turn_name (j := 5) (hs5 _) et_yes fun _ => evd_int (ev_mod (ev_var (hv5 _)) (ev_marks T (ev_var (hv0 _)) (Mo.mo _ _ _ e1 hv)) (by have := hM.m2; omega)))
  rw [cut_mid (by rw [List.length_map]; omega) (by rw [List.length_map]; omega), Nat.add_sub_cancel_left, hl, md_eq] at h
  exact h
-- _law_configuration: slots 0:_law_machine 1:_law_cell_here 2:_law_digits_here 3:_law_left 4:_law_right 5:_law_one; level 3; callees _law_digits, _law_trim
theorem sc_law_configuration : FnScope ["_law_machine", "_law_cell_here", "_law_digits_here", "_law_left", "_law_right", "_law_one"] ["_law_machine", "_law_cell_here"] (defScope s_law_configuration) := ⟨rfl, rfl, rfl, by decide +kernel, rfl, by decide +kernel, by decide +kernel⟩
theorem ok_law_configuration (T : Txt K mg) : FnOk P w K mg base CX0 3 (He.fAd K ("_law_configuration", none)) T.fd_law_configuration ["_law_machine", "_law_cell_here"] (sp_law_configuration K) := by
  have G_law_digits := ok_law_digits (P := P) (w := w) (base := base) T
  have b_law_digits : Binds K T.fd_law_digits ["_law_cell_here", "_law_count", "_law_many"] [] := T.F_law_digits.bindsN fun _ _ _ _ _ _ us hl => match us, hl with | [_, _, _], _ => rfl
  have G_law_trim := ok_law_trim (P := P) (w := w) (base := base) T
  have b_law_trim : Binds K T.fd_law_trim ["_law_row"] [] := T.F_law_trim.bindsN fun _ _ _ _ _ _ us hl => match us, hl with | [_], _ => rfl
  have sc := sc_law_configuration
  refine T.F_law_configuration.ok sc_law_configuration (fun vs H Q E h => ?_) (fun cdv A outer s H vs Q E hr h => ?_)
  · unfold sp_law_configuration at h
    obtain ⟨i, _, p, _⟩ := h
    exact p.len
  obtain ⟨⟨M, cell⟩, hM, p, k⟩ := h
  obtain ⟨v, _, rfl, hv, rfl⟩ := pl2 p
  refine ⟨_, PSs.nox (pss_cons (ps_set (i := 2) sc.nd rfl (Or.inl rfl) (pe_call G_law_digits (hr.mono (by decide)) rfl T.g_law_digits T.F_law_digits.kp b_law_digits .nil pass0 (pa_cons (pv 1) (pa_cons pe_int (pa_cons pe_int pa_nil)))))
      (pss_cons (ps_set (i := 3) sc.nd rfl (Or.inl rfl) (pe_call G_law_trim (hr.mono (by decide)) rfl T.g_law_trim T.F_law_trim.kp b_law_trim .nil pass0 (pa_cons (pe_lc (own := [("_law_one", 5)]) (g := gName 5) (tt := tYes) rfl sc.nd (pi_list (pe_slice sl_list (pv 2) (po_some pe_int) (po_some (pe_op op_add pe_int (pe_op op_mod (pe_ix ix_list (pv 2) pe_int (fun _ _ => rfl)) pe_int))))) (blkOk_by (N := ["_law_machine", "_law_cell_here", "_law_digits_here", "_law_left", "_law_right", "_law_one"]) (sc := defScope s_law_configuration) (by decide +kernel)) (fun _ _ _ _ _ => pg_name (i := 5) sc.nd rfl (Or.inl rfl)) (fun _ _ _ _ _ => pts_nil) (fun _ _ _ _ _ => (pe_op op_mod (pv 5) (pe_fldK K rfl (pv 0) rfl)))) pa_nil)))
      (pss_cons (ps_set (i := 4) sc.nd rfl (Or.inl rfl) (pe_call G_law_trim (hr.mono (by decide)) rfl T.g_law_trim T.F_law_trim.kp b_law_trim .nil pass0 (pa_cons (pe_lc (own := [("_law_one", 5)]) (g := gName 5) (tt := tYes) rfl sc.nd (pi_list (pe_slice sl_list (pv 2) (po_some pe_int) (po_some (pe_op op_add pe_int (pe_op op_mod (pe_ix ix_list (pv 2) pe_int (fun _ _ => rfl)) pe_int))))) (blkOk_by (N := ["_law_machine", "_law_cell_here", "_law_digits_here", "_law_left", "_law_right", "_law_one"]) (sc := defScope s_law_configuration) (by decide +kernel)) (fun _ _ _ _ _ => pg_name (i := 5) sc.nd rfl (Or.inl rfl)) (fun _ _ _ _ _ => pts_nil) (fun _ _ _ _ _ => (pe_op op_mod (pv 5) (pe_fldK K rfl (pv 0) rfl)))) pa_nil)))
      (pss_one (ps_ret (pe_tup (pa_cons (pe_op op_mod (pe_ix ix_list (pv 2) pe_int (fun _ _ => rfl)) (pe_fld (pv 0) rfl)) (pa_cons (pv 3) (pa_cons (pe_op op_mod (pe_op op_fdiv (pe_ix ix_list (pv 2) pe_int (fun _ _ => rfl)) pe_int) (pe_fld (pv 0) rfl)) (pa_cons (pv 4) pa_nil)))))))))), ?_⟩
  have hM : M.Ok := hM
  have hv : pTape K M v H := hv
  have m2 := hM.m2
  have m16 := hM.m16
  have s1 := hM.s1
  have s20 := hM.s20
  refine q_asgP (evp_call (cell, 16, 840) ⟨show (16 : Nat) ≤ 100 by decide, show (0 : Int) < 840 by decide, show (840 : Int) ≤ 1000 by decide⟩ (evps_cons (evp (ev_var rfl)) (evps_cons (evp ev_c) (evps_cons (evp ev_c) evps_nil)))) fun u H1 e1 hu => ?_
  obtain ⟨ns, hd, hu⟩ := (show pEx (digs 16 840) (fun ns => pL (ns.map .int)) u H1 from hu)
  have hn := hd.1
  have hi3 : ∀ {σ : L2.St} {H2 : Hp} {b j : Nat}, j < 16 → σ[2]? = some (some u) → Ex H1 H2 → Ev (tOp (rI0 fun i j => .int (i + j)) (tC (.int (b : Int))) (tOp (rI (fun _ j => 0 < j) fun i j => .int (i % j)) (tOp (rIxL K) (tVar 2) (tC (.int (j : Int)))) (tC (.int 6)))) σ H2 (.int ((b + (ns.getD j 0 % 6).toNat : Nat) : Int)) := fun {σ H2 b j} hj h2 e => by
    refine ev_is (ev_I ev_c (ev_mod (ev_intL (j := j) (evl_v h2 (Mo.mo _ _ _ e hu)) ev_c rfl (by rw [hn]; exact hj)) ev_c (by omega))) ?_
    congr 1
    have := Int.emod_nonneg (ns.getD j 0) (show (6 : Int) ≠ 0 by omega)
    omega
  have hk6 : ∀ j, (ns.getD j 0 % 6).toNat ≤ 5 := fun j => by
    have h1 := Int.emod_nonneg (ns.getD j 0) (show (6 : Int) ≠ 0 by omega)
    have h2 := Int.emod_lt_of_pos (ns.getD j 0) (show (0 : Int) < 6 by omega)
    omega
  obtain ⟨ls, hls⟩ : ∃ ls, ls = ((ns.drop 3).take (ns.getD 0 0 % 6).toNat).map fun z => z % M.m := ⟨_, rfl⟩
  obtain ⟨rs, hrs⟩ : ∃ rs, rs = ((ns.drop 9).take (ns.getD 1 0 % 6).toNat).map fun z => z % M.m := ⟨_, rfl⟩
  have hll : ls.length ≤ 5 := by rw [hls, List.length_map, List.length_take]; have := hk6 0; omega
  have hrl : rs.length ≤ 5 := by rw [hrs, List.length_map, List.length_take]; have := hk6 1; omega
  have hlm : Marks M.m ls := by rw [hls]; exact marks_mod (by omega)
  have hrm : Marks M.m rs := by rw [hrs]; exact marks_mod (by omega)
  refine q_asgP (evp_call ls (by show ls.length ≤ 1000; omega) (evps_cons (P := pS ls) (by
    rw [hls]
    exact evs_ofL (evp_n (evs_side (a := 3) T hM rfl rfl rfl rfl (fun _ => rfl) (fun _ => rfl) (fun _ => rfl) (Mo.mo _ _ _ e1 hv) hu hn (by decide) (by have := hk6 0; omega) (hi3 (by decide) rfl (Ex.refl _))))) evps_nil)) fun lv H2 e2 hl2 => ?_
  have hl2 : Is H2 lv (dI (trim ls)) := hl2
  refine q_asgP (evp_call rs (by show rs.length ≤ 1000; omega) (evps_cons (P := pS rs) (by
    rw [hrs]
    exact evs_ofL (evp_n (evs_side (a := 9) T hM rfl rfl rfl rfl (fun _ => rfl) (fun _ => rfl) (fun _ => rfl) (Mo.mo _ _ _ (e1.trans e2) hv) (Mo.mo _ _ _ e2 hu) hn (by decide) (by have := hk6 1; omega) (hi3 (by decide) rfl e2)))) evps_nil)) fun rv H3 e3 hr3 => ?_
  have hr3 : Is H3 rv (dI (trim rs)) := hr3
  have hu3 : pL (ns.map .int) u H3 := Mo.mo _ _ _ (e2.trans e3) hu
  have hv3 : pTape K M v H3 := Mo.mo _ _ _ ((e1.trans e2).trans e3) hv
  refine s_retP (P := pD (dCf ⟨ns.getD 2 0 % M.s, trim ls, ns.getD 2 0 / 40 % M.m, trim rs⟩)) (evd_tup (evds_cons (evd_int (ev_mod (ev_intL (j := 2) (evl_v rfl hu3) ev_c rfl (by rw [hn]; decide)) (ev_states T (ev_var rfl) hv3) (by omega))) (evds_cons (evd_v rfl (hl2.m (Tsm.ex e3))) (evds_cons (evd_int (ev_mod (ev_div (ev_intL (j := 2) (evl_v rfl hu3) ev_c rfl (by rw [hn]; decide)) ev_c (by omega)) (ev_marks T (ev_var rfl) hv3) (by omega))) (evds_cons (evd_v rfl hr3) evds_nil)))) (by simp)) fun w H4 e4 p4 => k w H4 (((e1.trans e2).trans e3).trans e4) ⟨_, ⟨⟨Int.emod_nonneg _ (by omega), Int.emod_lt_of_pos _ (by show (0 : Int) < M.s; omega), Int.emod_nonneg _ (by omega), Int.emod_lt_of_pos _ (by show (0 : Int) < M.m; omega), marks_trim hlm, marks_trim hrm, trim_idem _, trim_idem _⟩, Nat.le_trans (trim_len _) hll, Nat.le_trans (trim_len _) hrl⟩, p4⟩
-- _law_tape: slots 0:_law_numbers 1:_law_most_marks 2:_law_most_states 3:_law_marks 4:_law_states 5:_law_rows 6:_law_k 7:_law_digit 8:_law_move; level 5; callees Tape.__init__
theorem sc_law_tape : FnScope ["_law_numbers", "_law_most_marks", "_law_most_states", "_law_marks", "_law_states", "_law_rows", "_law_k", "_law_digit", "_law_move"] ["_law_numbers", "_law_most_marks", "_law_most_states"] (defScope s_law_tape) := ⟨rfl, rfl, rfl, by decide +kernel, rfl, by decide +kernel, by decide +kernel⟩
theorem ok_law_tape (T : Txt K mg) : FnOk P w K mg base CX0 5 (He.fAd K ("_law_tape", none)) T.fd_law_tape ["_law_numbers", "_law_most_marks", "_law_most_states"] (sp_law_tape K) := by
  have G_Tape_init := ok_Tape_init (P := P) (w := w) (base := base) T
  have b_Tape_init : Binds K T.fd_Tape_init ["self", "marks", "states", "rows"] [] := T.F_Tape_init.bindsN fun _ _ _ _ _ _ us hl => match us, hl with | [_, _, _, _], _ => rfl
  have sc := sc_law_tape
  refine T.F_law_tape.ok sc_law_tape (fun vs H Q E h => ?_) (fun cdv A outer s H vs Q E hr h => ?_)
  · unfold sp_law_tape at h
    obtain ⟨i, _, p, _⟩ := h
    exact p.len
  obtain ⟨ns, hd, p, k⟩ := h
  obtain ⟨u, _, _, rfl, hu, rfl, rfl⟩ := pl3 p
  refine ⟨_, PSs.nox (pss_cons (ps_set (i := 3) sc.nd rfl (Or.inl rfl) (pe_op op_add pe_int (pe_op op_mod (pe_ix ix_list (pv 0) pe_int (fun _ _ => rfl)) (pe_op op_sub (pv 1) pe_int))))
      (pss_cons (ps_set (i := 4) sc.nd rfl (Or.inl rfl) (pe_op op_add pe_int (pe_op op_mod (pe_ix ix_list (pv 0) pe_int (fun _ _ => rfl)) (pv 2))))
      (pss_cons (ps_set (i := 5) sc.nd rfl (Or.inl rfl) (pe_lst pa_nil))
      (pss_cons (ps_for PassesOwn.never rfl (pi_range1 rfl T.f_range (pa_cons (pe_op op_mul (pv 3) (pv 4)) pa_nil)) (pg_name (i := 6) sc.nd rfl (Or.inl rfl))
       (pss_cons (ps_set (i := 7) sc.nd rfl (Or.inl rfl) (pe_op op_add (pe_ix ix_list (pv 0) (pe_op op_add pe_int (pe_op op_mul pe_int (pe_op op_mod (pe_callTy call_int1 (by rfl) T.f_int (by decide +kernel) (pa_cons (pv 6) pa_nil)) pe_int))) (fun _ _ => rfl)) (pe_op op_mul pe_int (pe_op op_fdiv (pv 6) pe_int))))
        (pss_one (ps_if (pt_cmpR op_eq (pe_op op_mod (pv 7) pe_int) pe_int (nomark _))
         (pss_one (ps_expr (pe_bm PySem.F.plainAttrs_list PySem.F.slot_list_append PySem.F.type_list_append mt_append (pv 5) (pa_cons pe_non pa_nil))))
         (pss_cons (ps_set (i := 8) sc.nd rfl (Or.inl rfl) (pe_op op_sub (pe_op op_mul pe_int (pe_op op_mod (pe_op op_fdiv (pe_ix ix_list (pv 0) (pe_op op_add pe_int (pe_op op_mul pe_int (pe_op op_mod (pe_callTy call_int1 (by rfl) T.f_int (by decide +kernel) (pa_cons (pv 6) pa_nil)) pe_int))) (fun _ _ => rfl)) pe_int) pe_int)) pe_int))
          (pss_one (ps_expr (pe_bm PySem.F.plainAttrs_list PySem.F.slot_list_append PySem.F.type_list_append mt_append (pv 5) (pa_cons (pe_tup (pa_cons (pe_op op_mod (pe_op op_fdiv (pv 7) pe_int) (pv 3)) (pa_cons (pv 8) (pa_cons (pe_op op_mod (pe_callTy call_int1 (by rfl) T.f_int (by decide +kernel) (pa_cons (pe_op op_add (pe_ix ix_list (pv 0) (pe_op op_add pe_int (pe_op op_mul pe_int (pe_op op_mod (pe_callTy call_int1 (by rfl) T.f_int (by decide +kernel) (pa_cons (pv 6) pa_nil)) pe_int))) (fun _ _ => rfl)) (pe_op op_fdiv (pv 6) pe_int)) pa_nil)) (pv 4)) pa_nil)))) pa_nil)))))))))
      (pss_one (ps_ret (pe_make T.k_Tape G_Tape_init (hr.mono (by decide)) rfl T.g_Tape b_Tape_init .nil pass0 (pa_cons (pv 3) (pa_cons (pv 4) (pa_cons (pv 5) pa_nil)))))))))), ?_⟩
  have hd : digs 38 840 ns := hd
  have hu : pL (ns.map .int) u H := hu
  have hn := hd.1
  refine q_asgI (ev_I ev_c (ev_mod (ev_intL (j := 0) (evl_v rfl hu) ev_c rfl (by rw [hn]; decide)) (ev_I (ev_var rfl) ev_c) (by omega))) fun H1 e1 => ?_
  refine q_asgI (ev_I ev_c (ev_mod (ev_intL (j := 1) (evl_v rfl (Mo.mo _ _ _ e1 hu)) ev_c rfl (by rw [hn]; decide)) (ev_var rfl) (by omega))) fun H2 e2 => ?_
  obtain ⟨m, hm⟩ : ∃ m, m = 2 + ns.getD 0 0 % (6 - 1) := ⟨_, rfl⟩
  obtain ⟨st, hst⟩ : ∃ st, st = 1 + ns.getD 1 0 % 5 := ⟨_, rfl⟩
  rw [← hm, ← hst]
  have m2 : 2 ≤ m ∧ m ≤ 6 := by
    have h1 := Int.emod_nonneg (ns.getD 0 0) (show (6 - 1 : Int) ≠ 0 by omega)
    have h2 := Int.emod_lt_of_pos (ns.getD 0 0) (show (0 : Int) < 6 - 1 by omega)
    omega
  have s1 : 1 ≤ st ∧ st ≤ 5 := by
    have h1 := Int.emod_nonneg (ns.getD 1 0) (show (5 : Int) ≠ 0 by omega)
    have h2 := Int.emod_lt_of_pos (ns.getD 1 0) (show (0 : Int) < 5 by omega)
    omega
  have hms : 0 ≤ m * st ∧ m * st ≤ 30 := by
    have h1 : 0 ≤ m * st := Int.mul_nonneg (by omega) (by omega)
    have h2 : m * st ≤ 6 * 5 := Int.mul_le_mul m2.2 s1.2 (by omega) (by omega)
    exact ⟨h1, by omega⟩
  refine q_asgN (evn_lst evds_nil (by simp)) fun pn xs H3 hpn e3 hl3 hx3 => ?_
  obtain rfl : xs = [] := by cases hx3; rfl
  have e123 := (e1.trans e2).trans e3
  have hn0 : H pn = none := fresh_back (e1.trans e2) hpn
  refine q_forR1 (j := 6) (n := m * st) (ea_cons (ev_mul (ev_var rfl) (ev_var rfl) (cm_l (by omega))) ea_nil) ⟨by omega, by omega⟩ (fun i σ' H' => Ex H H' ∧ ∃ (rows : List Row) (ys : List V) (z6 z7 z8 : Option V), rows.length = i ∧ (∀ r ∈ rows, rowOk m st r) ∧ H' pn = some (.lst ys) ∧ Iss H' ys (rows.map dRow) ∧ σ' = [some u, some (.int 6), some (.int 5), some (.int m), some (.int st), some (.ref pn), z6, z7, z8])
    (fun H4 e4 => ⟨e123.trans e4, [], [], none, none, none, rfl, fun r hr => (List.not_mem_nil hr).elim, e4 _ _ hl3, .nil, rfl⟩) (fun i σ' H' hi ⟨e4, rows, ys, z6, z7, z8, hrl, hro, hl, hx, es⟩ => ?_) fun σ' H' ⟨e4, rows, ys, z6, z7, z8, hrl, hro, hl, hx, es⟩ => ?_
  · subst es
    have h12 : 0 ≤ (i : Int) % 12 ∧ (i : Int) % 12 < 12 := ⟨Int.emod_nonneg _ (by omega), Int.emod_lt_of_pos _ (by omega)⟩
    have hix : ∀ {σ : L2.St} {H5 : Hp} (b : Nat), b ≤ 4 → σ[0]? = some (some u) → σ[6]? = some (some (.int (i : Int))) → Ex H H5 → Ev (tOp (rIxL K) (tVar 0) (tOp (rI0 fun i j => .int (i + j)) (tC (.int (b : Int))) (tOp (rI CMul fun i j => .int (i * j)) (tC (.int 3)) (tOp (rI (fun _ j => 0 < j) fun i j => .int (i % j)) (tCB (fun xs H Q => (∃ i, xs = [.int i] ∧ Q (.int i) H) ∨ ∃ k, xs = [.bl k] ∧ Q (.int (if k then 1 else 0)) H) (tCons (tVar 6) tNil)) (tC (.int 12)))))) σ H5 (.int (ns.getD (b + 3 * ((i : Int) % 12).toNat) 0)) := fun {σ H5} b hb h0 h6 e =>
      ev_intL (j := b + 3 * ((i : Int) % 12).toNat) (evl_v h0 (Mo.mo _ _ _ e hu)) (ev_I ev_c (ev_mul ev_c (ev_mod (ev_int1 (ev_var h6)) ev_c (by omega)) (cm_l (by omega)))) (by omega) (by omega)
    refine q_asgI (ev_I (hix 2 (by decide) rfl rfl e4) (ev_mul ev_c (ev_div (ev_var rfl) ev_c (by omega)) (cm_l (by omega)))) fun H5 e5 => ?_
    obtain ⟨dg, hdg⟩ : ∃ dg, dg = ns.getD (2 + 3 * ((i : Int) % 12).toNat) 0 + 7 * ((i : Int) / 12) := ⟨_, rfl⟩
    rw [← hdg]
    refine s_if (b := decide (dg % 5 = 0)) (et_test (ev_eqI (ev_mod (ev_var rfl) ev_c (by omega)) ev_c)) (fun _ H6 e6 => ?_) fun _ H6 e6 => ?_
    · refine s_appD (d := .none) ((e4.trans e5).trans e6) hn0 (e6 _ _ (e5 _ _ hl)) (hx.m (Tsm.ex (e5.trans e6))) (ev_var rfl) (evp_is ev_c .non) (by rw [List.length_map]; omega) fun ys7 H7 e7 t7 hl7 hx7 => ⟨e7, rows ++ [none], ys7, _, _, _, by simp [hrl], ?_, hl7, ?_, rfl⟩
      · intro r hr
        rcases List.mem_append.mp hr with hr | hr
        · exact hro r hr
        · obtain rfl : r = none := by simpa using hr
          intro w v q h
          cases h
      · rw [List.map_append]
        exact hx7
    · refine q_asgI (ev_I (ev_mul ev_c (ev_mod (ev_div (hix 3 (by decide) rfl rfl ((e4.trans e5).trans e6)) ev_c (by omega)) ev_c (by omega)) (cm_l (by omega))) ev_c) fun H7 e7 => ?_
      obtain ⟨mv, hmv⟩ : ∃ mv, mv = 2 * (ns.getD (3 + 3 * ((i : Int) % 12).toNat) 0 / 3 % 2) - 1 := ⟨_, rfl⟩
      rw [← hmv]
      have hmv1 : mv = 1 ∨ mv = -1 := by
        have h1 := Int.emod_nonneg (ns.getD (3 + 3 * ((i : Int) % 12).toNat) 0 / 3) (show (2 : Int) ≠ 0 by omega)
        have h2 := Int.emod_lt_of_pos (ns.getD (3 + 3 * ((i : Int) % 12).toNat) 0 / 3) (show (0 : Int) < 2 by omega)
        omega
      have e47 := ((e4.trans e5).trans e6).trans e7
      refine s_appD (d := dRow (some (dg / 5 % m, mv, (ns.getD (4 + 3 * ((i : Int) % 12).toNat) 0 + (i : Int) / 12) % st))) e47 hn0 (e7 _ _ (e6 _ _ (e5 _ _ hl))) (hx.m (Tsm.ex ((e5.trans e6).trans e7))) (ev_var rfl) (evd_tup (evds_cons (evd_int (ev_mod (ev_div (ev_var rfl) ev_c (by omega)) (ev_var rfl) (by omega))) (evds_cons (evd_int (ev_var rfl)) (evds_cons (evd_int (ev_mod (ev_int1 (ev_I (hix 4 (by decide) rfl rfl e47) (ev_div (ev_var rfl) ev_c (by omega)))) (ev_var rfl) (by omega))) evds_nil))) (by simp)) (by rw [List.length_map]; omega) fun ys8 H8 e8 t8 hl8 hx8 => ⟨e8, rows ++ [some (dg / 5 % m, mv, (ns.getD (4 + 3 * ((i : Int) % 12).toNat) 0 + (i : Int) / 12) % st)], ys8, _, _, _, by simp [hrl], ?_, hl8, ?_, rfl⟩
      · intro r hr
        rcases List.mem_append.mp hr with hr | hr
        · exact hro r hr
        · obtain rfl : r = _ := List.mem_singleton.mp hr
          intro w' v' q' h'
          injection h' with h'
          injection h' with h1 h2
          injection h2 with h2 h3
          rw [← h1, ← h2, ← h3]
          exact ⟨Int.emod_nonneg _ (by omega), Int.emod_lt_of_pos _ (by omega), hmv1, Int.emod_nonneg _ (by omega), Int.emod_lt_of_pos _ (by omega)⟩
      · rw [List.map_append]
        exact hx8
  · subst es
    have hok : (⟨m, st, rows⟩ : Mach).Ok := ⟨m2.1, by show m ≤ 16; omega, s1.1, by show st ≤ 20; omega, by show (rows.length : Int) = m * st; omega, hro⟩
    exact s_retP (evp_make (⟨m, st, rows⟩ : Mach) hok (evps_cons (evp (ev_var rfl)) (evps_cons (evp (ev_var rfl)) (evps_cons (P := pL (rows.map dRow)) (evl_v rfl ⟨pn, ys, rfl, hl, hx⟩) evps_nil)))) fun w H5 e5 p5 => k w H5 (e4.trans e5) ⟨_, hok, p5⟩
end
end SD
end
section
set_option Elab.async false
set_option linter.all false
set_option maxRecDepth 100000
set_option maxHeartbeats 4000000
namespace SD
open PySem L2 Evl SDR
section
variable {P : Program} {w : World} {K : PySem.W.Frag} {mg : Str → Option Value} {base : Heap}
def dPt (p : Part) : PyData := .tuple [.int p.1, dI p.2]
def sF (s : Int) : PyData → Bool
  | .tuple [_, _, _, .int z] => decide (z = s)
  | _ => false
def wF (w : Int) : PyData → Bool
  | .tuple [_, _, .int z, _] => decide (z = w)
  | _ => false
def exD (ns : List Int) : PyData → PyData
  | .tuple (.int e :: .int n :: _) => dPt (e, ns ++ [n])
  | d => d
def ptSub (ts : List Tl) (s : Int) (p : Part) : List Part := ((ts.filter fun t => decide (t.s = s)).filter fun t => decide (t.w = p.1)).map fun t => (t.e, p.2 ++ [t.n])
theorem sF_eq (ts : List Tl) (s : Int) : ((ts.map dT).filter (sF s)).map id = (ts.filter fun t => decide (t.s = s)).map dT := by
  rw [List.map_id, List.filter_map]
  rfl
theorem wF_eq (ts : List Tl) (s : Int) (p : Part) : (((ts.filter fun t => decide (t.s = s)).map dT).filter (wF p.1)).map (exD p.2) = (ptSub ts s p).map dPt := by
  unfold ptSub
  rw [List.filter_map, List.map_map, List.map_map]
  rfl
def zF : PyData → Bool
  | .tuple (.int e :: _) => decide (e = 0)
  | _ => false
def sndD : PyData → PyData
  | .tuple [_, d] => d
  | d => d
theorem zF_eq (ps : List Part) : ((ps.map dPt).filter zF).map sndD = (ptEnd ps).map dI := by
  unfold ptEnd
  rw [List.filter_map, List.map_map, List.map_map]
  rfl
theorem ptAll_snoc (ts : List Tl) (f : List Int) (s : Int) (ps : List Part) : ptAll ts (f ++ [s]) ps = ptStep ts s (ptAll ts f ps) := by
  unfold ptAll
  rw [List.foldl_append]
  rfl
theorem ptAll_lens {ts : List Tl} : ∀ (f : List Int) (ps : List Part) (n : Nat), (∀ p ∈ ps, p.2.length = n) → ∀ p ∈ ptAll ts f ps, p.2.length = n + f.length
  | [], ps, n, h, p, hp => by rw [h p hp]; rfl
  | s :: f, ps, n, h, p, hp => by
    have h1 := ptAll_lens f (ptStep ts s ps) (n + 1) (fun q hq => by
      obtain ⟨p0, h1, h2⟩ := List.mem_flatMap.mp hq
      obtain ⟨t, _, rfl⟩ := List.mem_map.mp h2
      show (p0.2 ++ [t.n]).length = n + 1
      rw [List.length_append, h p0 h1]
      rfl) p hp
    rw [h1, List.length_cons]
    omega
theorem ptAll_size {ts : List Tl} (A : Apart ts) (hz : ts.length ≤ 1000) : ∀ (f : List Int) (ps : List Part), ps.Pairwise Rl → ps.length ≤ 1000 → (ptAll ts f ps).length ≤ 1000
  | [], ps, _, h => h
  | s :: f, ps, hr, h => ptAll_size A hz f (ptStep ts s ps) (ptStep_rl A hr) (Nat.le_trans (ptStep_len A hr) hz)
theorem dPt_cat (e : Int) (ns : List Int) (n : Int) : PyData.tuple [.int e, .tuple (ns.map .int ++ [.int n])] = dPt (e, ns ++ [n]) := by
  unfold dPt dI
  rw [List.map_append]
  rfl
-- _law_floors: slots 0:_law_tiles_here 1:_law_line_here 2:_law_parts 3:_law_south 4:_law_fitting 5:_law_longer 6:_law_west 7:_law_norths 8:_law_tile; level 1; callees 
theorem sc_law_floors : FnScope ["_law_tiles_here", "_law_line_here", "_law_parts", "_law_south", "_law_fitting", "_law_longer", "_law_west", "_law_norths", "_law_tile"] ["_law_tiles_here", "_law_line_here"] (defScope s_law_floors) := ⟨rfl, rfl, rfl, by decide +kernel, rfl, by decide +kernel, by decide +kernel⟩
theorem ok_law_floors (T : Txt K mg) : FnOk P w K mg base CX0 1 (He.fAd K ("_law_floors", none)) T.fd_law_floors ["_law_tiles_here", "_law_line_here"] (sp_law_floors) := by
  have sc := sc_law_floors
  refine T.F_law_floors.ok sc_law_floors (fun vs H Q E h => ?_) (fun cdv A outer s H vs Q E hr h => ?_)
  · unfold sp_law_floors at h
    obtain ⟨i, _, p, _⟩ := h
    exact p.len
  obtain ⟨⟨ts, line⟩, ⟨hA, hz1, hz2⟩, p, k⟩ := h
  obtain ⟨v, u, rfl, hv, hu⟩ := pl2 p
  refine ⟨_, PSs.nox (pss_cons (ps_set (i := 2) sc.nd rfl (Or.inl rfl) (pe_lst (pa_cons (pe_tup (pa_cons pe_int (pa_cons (pe_tup pa_nil) pa_nil))) pa_nil)))
      (pss_cons (ps_for PassesOwn.never rfl (pi_tup (pe_op op_catA (pe_op op_catA (pe_tup (pa_cons pe_int pa_nil)) (pv 1)) (pe_tup (pa_cons pe_int pa_nil)))) (pg_name (i := 3) sc.nd rfl (Or.inr rfl))
       (pss_cons (ps_setLc (i := 4) (own := [("_law_tile", 8)]) (g := gName 8) rfl sc.nd rfl rfl (sw_true rfl rfl rfl (by decide +kernel)) (pi_tup (pv 0)) (blkOk_by (N := ["_law_tiles_here", "_law_line_here", "_law_parts", "_law_south", "_law_fitting", "_law_longer", "_law_west", "_law_norths", "_law_tile"]) (sc := defScope s_law_floors) (by decide +kernel)) (fun _ _ _ _ _ => pg_name (i := 8) sc.nd rfl (Or.inl rfl)) (fun _ _ _ _ _ => pts_one (pt_cmpR op_eq (pe_ix (ix_tupK K rfl) (pv 8) pe_int (fun _ _ => rfl)) (pv 3) (nomark _))) (fun _ _ _ _ _ => (pv 8)))
        (pss_cons (ps_set (i := 5) sc.nd rfl (Or.inl rfl) (pe_lst pa_nil))
        (pss_cons (ps_for PassesOwn.never rfl (pi_list (pv 2)) (pg_tup rfl (pgs_cons (pg_name (i := 6) sc.nd rfl (Or.inr rfl)) (pgs_cons (pg_name (i := 7) sc.nd rfl (Or.inr rfl)) pgs_nil)))
         (pss_one (ps_set (i := 5) sc.nd rfl (Or.inl rfl) (pe_op op_cat (pv 5) (pe_lc (own := [("_law_tile", 8)]) (g := gName 8) rfl sc.nd (pi_list (pv 4)) (blkOk_by (N := ["_law_tiles_here", "_law_line_here", "_law_parts", "_law_south", "_law_fitting", "_law_longer", "_law_west", "_law_norths", "_law_tile"]) (sc := defScope s_law_floors) (by decide +kernel)) (fun _ _ _ _ _ => pg_name (i := 8) sc.nd rfl (Or.inl rfl)) (fun _ _ _ _ _ => pts_one (pt_cmpR op_eq (pe_ix (ix_tupK K rfl) (pv 8) pe_int (fun _ _ => rfl)) (pv 6) (nomark _))) (fun _ _ _ _ _ => (pe_tup (pa_cons (pe_ix (ix_tupK K rfl) (pv 8) pe_int (fun _ _ => rfl)) (pa_cons (pe_op (op_catAK K rfl) (pv 7) (pe_tup (pa_cons (pe_ix (ix_tupK K rfl) (pv 8) pe_int (fun _ _ => rfl)) pa_nil))) pa_nil)))))))))
        (pss_one (ps_set (i := 2) sc.nd rfl (Or.inl rfl) (pv 5)))))))
      (pss_one (ps_ret (pe_lc (own := [("_law_west", 6), ("_law_norths", 7)]) (g := gTup K 2 (gCons (gName 6) (gCons (gName 7) gNil))) rfl sc.nd (pi_list (pv 2)) (blkOk_by (N := ["_law_tiles_here", "_law_line_here", "_law_parts", "_law_south", "_law_fitting", "_law_longer", "_law_west", "_law_norths", "_law_tile"]) (sc := defScope s_law_floors) (by decide +kernel)) (fun _ _ _ _ _ => pg_tup rfl (pgs_cons (pg_name (i := 6) sc.nd rfl (Or.inl rfl)) (pgs_cons (pg_name (i := 7) sc.nd rfl (Or.inl rfl)) pgs_nil))) (fun _ _ _ _ _ => pts_one (pt_cmpR op_eq (pv 6) pe_int (nomark _))) (fun _ _ _ _ _ => (pv 7))))))), ?_⟩
  have hA : Apart ts := hA
  have hz1 : ts.length ≤ 1000 := hz1
  have hz2 : line.length ≤ 900 := hz2
  have hv : Is H v (.tuple (ts.map dT)) := hv
  have hu : Is H u (dI line) := hu
  have hfl : (fl line).length = line.length + 2 := by unfold fl; simp
  have hR0 : [((0 : Int), ([] : List Int))].Pairwise Rl := List.pairwise_singleton _ _
  refine q_asgN (evn_lst (evds_cons (d := dPt (0, [])) (evd_tup (evds_cons (evd_int ev_c) (evds_cons (d := dI []) (evd_tup evds_nil (by simp)) evds_nil)) (by simp)) evds_nil) (by simp)) fun pa0 xs0 H1 hpa0 e1 hl1 hx1 => ?_
  refine q_forD (ds := (fl line).map .int) (evd_eq (evd_cat (evd_cat (evd_tup (evds_cons (evd_int ev_c) evds_nil) (by simp)) (evd_v rfl (hu.m (Tsm.ex e1))) ?_) (evd_tup (evds_cons (evd_int ev_c) evds_nil) (by simp)) ?_) ?_) (fun i σ' H' => Ex H H' ∧ ∃ (pa : Addr) (xs : List V) (z3 z4 z5 z6 z7 z8 : Option V), H' pa = some (.lst xs) ∧ Iss H' xs ((ptAll ts ((fl line).take i) [(0, [])]).map dPt) ∧ σ' = [some v, some u, some (.ref pa), z3, z4, z5, z6, z7, z8])
    (fun H2 e2 => ⟨e1.trans e2, pa0, xs0, none, none, none, none, none, none, e2 _ _ hl1, hx1.m (Tsm.ex e2), rfl⟩) (fun H0 i d x σ' H' t0 hd hx ⟨e2, pa, xs, z3, z4, z5, z6, z7, z8, hl, hxs, es⟩ => ?_) fun σ' H' ⟨e2, pa, xs, z3, z4, z5, z6, z7, z8, hl, hxs, es⟩ => ?_
  · simp
    omega
  · simp
    omega
  · unfold fl
    simp [dI]
  · subst es
    obtain ⟨s', hs', rfl⟩ : ∃ s', (fl line)[i]? = some s' ∧ d = .int s' := by
      rw [List.getElem?_map] at hd
      cases q : (fl line)[i]? with
      | none => rw [q] at hd; cases hd
      | some s' => rw [q] at hd; exact ⟨s', rfl, (Option.some.inj hd).symm⟩
    obtain rfl := is_int.mp hx
    have hi : i < (fl line).length := (List.getElem?_eq_some_iff.mp hs').1
    have htake : (fl line).take (i + 1) = (fl line).take i ++ [s'] := by
      rw [List.take_add_one, hs']
      rfl
    obtain ⟨ps, hps⟩ : ∃ ps, ps = ptAll ts ((fl line).take i) [((0 : Int), ([] : List Int))] := ⟨_, rfl⟩
    rw [← hps] at hxs
    have hrl : ps.Pairwise Rl := by rw [hps]; exact ptAll_rl hA _ _ hR0
    have hlens : ∀ p ∈ ps, p.2.length ≤ 902 := fun p hp => by
      rw [hps] at hp
      have h1 := ptAll_lens ((fl line).take i) [((0 : Int), ([] : List Int))] 0 (fun q hq => by rw [List.mem_singleton.mp hq]; rfl) p hp
      rw [h1, List.length_take]
      omega
    have hstep : (ps.flatMap (ptSub ts s')).length ≤ 1000 := Nat.le_trans (ptStep_len hA hrl) hz1
    have hpre : ∀ m, ((ps.take m).flatMap (ptSub ts s')).length ≤ 1000 := fun m => Nat.le_trans (flatMap_take_len _ ps m) hstep
    have hxl : xs.length = ps.length := by rw [hxs.len, List.length_map]
    refine q_asgN (evn_lcT (sF s') id (evd_v rfl (hv.m (Tsm.ex e2))) (by rw [List.length_map]; omega) fun j d y H3 e3 hd hy => ?_) fun fa fs H3 hfa e3 hl3 hx3 => ?_
    · obtain ⟨t, ht, rfl⟩ := tls_at hd
      have hy' : Is H3 y (dI [t.e, t.n, t.w, t.s]) := hy
      exact turn_name (j := 8) rfl (et_test (ev_eqI (ev_intT (j := 3) (evd_v rfl hy') ev_c rfl (by simp)) (ev_var rfl))) fun _ => evd_v rfl hy
    rw [sF_eq] at hx3
    refine q_asgN (evn_lst evds_nil (by simp)) fun la0 ls0 H4 hla0 e4 hl4 hx4 => ?_
    obtain rfl : ls0 = [] := by cases hx4; rfl
    refine q_forL (a := pa) (xs := xs) (ev_var rfl) (SqL.of (e4 _ _ (e3 _ _ hl))) (fun m σ2 H7 => Ex H4 H7 ∧ ∃ (la : Addr) (ls : List V) (z6 z7 z8 : Option V), H7 la = some (.lst ls) ∧ Iss H7 ls (((ps.take m).flatMap (ptSub ts s')).map dPt) ∧ σ2 = [some v, some u, some (.ref pa), some (.int s'), some (.ref fa), some (.ref la), z6, z7, z8])
      (fun H7 e7 => ⟨e7, la0, [], z6, z7, z8, e7 _ _ hl4, .nil, rfl⟩) (fun m σ2 H7 _ ⟨e7, _⟩ => SqL.of (e7 _ _ (e4 _ _ (e3 _ _ hl)))) (fun m x σ2 H7 hx ⟨e7, la, ls, y6, y7, y8, hl7, hx7, es⟩ => ?_) fun σ2 H7 ⟨e7, la, ls, y6, y7, y8, hl7, hx7, es⟩ => ?_
    · subst es
      obtain ⟨d, hd, hxd⟩ := hxs.get' hx
      obtain ⟨p, hp, rfl⟩ : ∃ p, ps[m]? = some p ∧ d = dPt p := by
        rw [List.getElem?_map] at hd
        cases q : ps[m]? with
        | none => rw [q] at hd; cases hd
        | some p => rw [q] at hd; exact ⟨p, rfl, (Option.some.inj hd).symm⟩
      have e37 : Ex H' H7 := (e3.trans e4).trans e7
      obtain ⟨ax, zs, rfl, g1, g2⟩ := is_tup.mp (hxd.m (Tsm.ex e37))
      cases g2 with
      | cons q1 g2 =>
        cases g2 with
        | cons q2 g2 =>
          cases g2
          obtain rfl := is_int.mp q1
          have htk : ps.take (m + 1) = ps.take m ++ [p] := by
            rw [List.take_add_one, hp]
            rfl
          have h10 := hpre (m + 1)
          have hnew : ((ps.take m).flatMap (ptSub ts s')).map dPt ++ (ptSub ts s' p).map dPt = ((ps.take (m + 1)).flatMap (ptSub ts s')).map dPt := by
            rw [htk, List.flatMap_append, List.map_append]
            simp
          have hpl := hlens p (List.mem_of_getElem? hp)
          have hcomp := evn_lcL (K := K) (σ := [some v, some u, some (.ref pa), some (.int s'), some (.ref fa), some (.ref la), some (.int p.1), some _, y8]) (H := H7) (tb := tVar 4) (vs := [8]) (g := gName 8) (t := tTest (tOp rEq (tOp (rIxT K) (tVar 8) (tC (.int 2))) (tVar 6))) (te := tTup (tCons (tOp (rIxT K) (tVar 8) (tC (.int 0))) (tCons (tOp (rCatA K) (tVar 7) (tTup (tCons (tOp (rIxT K) (tVar 8) (tC (.int 1))) tNil))) tNil))) (wF p.1) (exD p.2) (evl_v rfl ⟨fa, fs, rfl, e7 _ _ (e4 _ _ hl3), hx3.m (Tsm.ex (e4.trans e7))⟩) (by
              rw [List.length_map]
              exact Nat.le_trans (List.length_filter_le _ _) (by omega)) (fun j d y H8 e8 hd hy => by
              obtain ⟨t, ht, rfl⟩ := tls_at hd
              have hy' : Is H8 y (dI [t.e, t.n, t.w, t.s]) := hy
              refine turn_name (j := 8) rfl (et_test (ev_eqI (ev_intT (j := 2) (evd_v rfl hy') ev_c rfl (by simp)) (ev_var rfl))) fun _ => evd_eq (evd_tup (evds_cons (evd_int (ev_intT (j := 0) (evd_v rfl hy') ev_c rfl (by simp))) (evds_cons (evd_cat (evd_v rfl (q2.m (Tsm.ex e8))) (evd_tup (evds_cons (evd_int (ev_intT (j := 1) (evd_v rfl hy') ev_c rfl (by simp))) evds_nil) (by simp)) ?_) evds_nil)) (by simp)) (dPt_cat _ _ _)
              simp
              omega)
          rw [wF_eq] at hcomp
          refine ⟨ax, _, rfl, SqT.of g1, rfl, _, _, rfl, _, _, rfl, rfl, (evn_cat (evl_v rfl ⟨la, ls, rfl, hl7, hx7⟩) (evp_n hcomp) ?_) H7 (Ex.refl H7) _ fun pb ys H8 hpb e8 hl8 hx8 => ⟨e7.trans e8, pb, ys, _, _, _, hl8, ?_, rfl⟩⟩
          · rw [← List.length_append, hnew, List.length_map]
            omega
          · rw [hnew] at hx8
            exact hx8
    · subst es
      rw [hxl, List.take_length] at hx7
      refine s_asg (ev_var rfl) fun H8 e8 => ⟨t0.trans (Tsm.ex (((e3.trans e4).trans e7).trans e8)), (((e2.trans e3).trans e4).trans e7).trans e8, la, ls, _, _, _, _, _, _, e8 _ _ hl7, ?_, rfl⟩
      rw [htake, ptAll_snoc, ← hps]
      exact hx7.m (Tsm.ex e8)
  · subst es
    rw [List.length_map, List.take_length] at hxs
    have hsz := ptAll_size hA hz1 (fl line) [((0 : Int), ([] : List Int))] hR0 (by simp)
    refine s_retP (evp_n (evn_lcL zF sndD (evl_v rfl ⟨pa, xs, rfl, hl, hxs⟩) (by rw [List.length_map]; omega) fun j d y H3 e3 hd hy => ?_)) fun w H4 e4 p4 => k w H4 (e2.trans e4) ?_
    · rw [List.getElem?_map] at hd
      cases q : (ptAll ts (fl line) [((0 : Int), ([] : List Int))])[j]? with
      | none => rw [q] at hd; cases hd
      | some p =>
        rw [q] at hd
        obtain rfl : dPt p = d := Option.some.inj hd
        obtain ⟨ax, zs, rfl, g1, g2⟩ := is_tup.mp hy
        cases g2 with
        | cons q1 g2 =>
          cases g2 with
          | @cons y2 _ _ _ q2 g2 =>
            cases g2
            obtain rfl := is_int.mp q1
            exact ⟨[some v, some u, some (.ref pa), z3, z4, z5, some (.int p.1), some y2, z8], rfl, fun R r => ⟨ax, _, rfl, SqT.of g1, rfl, _, _, rfl, _, _, rfl, rfl, r⟩, et_test (ev_eqI (ev_var rfl) ev_c), fun _ => evd_v rfl q2⟩
    · rw [zF_eq, floors_eq, List.map_map] at p4
      exact p4
end
end SD
end
section
set_option Elab.async false
set_option linter.all false
set_option maxRecDepth 100000
set_option maxHeartbeats 4000000
namespace SD
open PySem L2 Evl SDR
section
variable {P : Program} {w : World} {K : PySem.W.Frag} {mg : Str → Option Value} {base : Heap}
def kk4 (t : Tl) : List Key := [Sum.inl t.e, Sum.inl t.n, Sum.inl t.w, Sum.inl t.s]
theorem kk4_inj {t t' : Tl} (h : kk4 t = kk4 t') : t = t' := by
  unfold kk4 at h
  injection h with h1 h
  injection h with h2 h
  injection h with h3 h
  injection h with h4 h
  cases t
  cases t'
  simp only [Sum.inl.injEq] at h1 h2 h3 h4
  subst h1 h2 h3 h4
  rfl
/-- len({t: True for t in tiles}) -/
theorem ev_lenDc {σ : L2.St} {H : Hp} {tb : TE} {ts : List Tl} (h : EvP tb σ H (pL (ts.map dT))) (hnd : ts.Nodup) (hz : ts.length ≤ 1000) (hw : ∀ x, wipe ((wipe σ [2]).set 2 (some x)) [2] = wipe σ [2]) (h2 : ∀ x, ((wipe σ [2]).set 2 (some x))[2]? = some (some x)) :
    Ev (tCB rLenT (tCons (tDcP (.dT []) (iList K tb) (gName 2) (tVar 2) (tC (.bl true)) [2]) tNil)) σ H (.int (ts.length : Int)) := fun H0 e0 Q q => h H0 e0 _ fun x H1 e1 ⟨a, xs, ex, g1, g2⟩ => by
  have hxl : xs.length = ts.length := by rw [g2.len, List.length_map]
  refine ⟨a, ex, ⟨xs, SqL.of g1⟩, fun D hD => ?_⟩
  refine ⟨fun i m H => m = xs.length - i ∧ i ≤ xs.length ∧ Ex H1 H ∧ ∃ kvs : List (List Key × V), H D = some (.dT kvs) ∧ kvs.map (·.1) = (ts.take i).map kk4, ⟨xs.length, rfl, Nat.zero_le _, Ex.new hD, [], upd_same, rfl⟩, ?_⟩
  rintro i m H ⟨rfl, hi, e2, kvs, hd, hk⟩
  have sq : SqL K H a xs := SqL.of (e2 _ _ g1)
  by_cases hlt : i < xs.length
  · refine .inr ⟨⟨xs, xs[i], sq, by simp [hlt]⟩, fun H' => i + 1 ≤ xs.length ∧ Ex H1 H' ∧ ∃ kvs : List (List Key × V), H' D = some (.dT kvs) ∧ kvs.map (·.1) = (ts.take (i + 1)).map kk4, fun H' ⟨p1, p2, p3⟩ => ⟨xs.length - (i + 1), by omega, rfl, p1, p2, p3⟩, fun x H' hy => ?_⟩
    obtain ⟨rfl, hx⟩ := hy
    have hx := hx xs sq
    obtain ⟨d, hd2, hxd⟩ := g2.get' hx
    obtain ⟨t, ht, rfl⟩ := tls_at hd2
    obtain ⟨b, rfl, hb⟩ := is_dI.mp (show Is H' x (dI [t.e, t.n, t.w, t.s]) from hxd.m (Tsm.ex e2))
    have hnin : (kvs.any fun kv => decide (kv.1 = kk4 t)) = false := by
      cases q : kvs.any fun kv => decide (kv.1 = kk4 t) with
      | false => rfl
      | true =>
        exfalso
        obtain ⟨kv, hkv, hk2⟩ := List.any_eq_true.mp q
        have hk2 := of_decide_eq_true hk2
        have hm : kk4 t ∈ (ts.take i).map kk4 := by rw [← hk, ← hk2]; exact List.mem_map.mpr ⟨kv, hkv, rfl⟩
        obtain ⟨t', ht', e'⟩ := List.mem_map.mp hm
        have := kk4_inj e'
        subst this
        have hcat : ts = ts.take i ++ t' :: ts.drop (i + 1) := by
          conv => lhs; rw [← List.take_append_drop i ts]
          rw [List.drop_eq_getElem_cons (by omega), (List.getElem?_eq_some_iff.mp ht).2]
        rw [hcat] at hnd
        exact (List.nodup_append.mp hnd).2.2 t' ht' t' (by simp) rfl
    have hkl : kvs.length = i := by
      have := congrArg List.length hk
      rw [List.length_map, List.length_map, List.length_take] at this
      omega
    refine ⟨hw _, .ref b, h2 _, ⟨_, .inr ⟨kvs, kk4 t, b, hd, rfl, hb, sz_lt (by omega), rfl⟩, hlt, Ex.mut e2 hD, putK kvs (kk4 t) (.bl true), upd_same, ?_⟩⟩
    unfold putK
    rw [hnin, if_neg (by decide), List.map_append, hk, List.take_add_one, ht, List.map_append]
    rfl
  · have e : i = xs.length := by omega
    refine .inl ⟨⟨xs, sq, by omega⟩, D, kvs, rfl, hd, ?_⟩
    have hkl : kvs.length = ts.length := by
      have := congrArg List.length hk
      rw [List.length_map, List.length_map, List.length_take] at this
      omega
    rw [hkl]
    exact q H (e1.trans e2)
/-- the dict by sides, its lists new since H0 and apart -/
structure ByI (H0 H : Hp) (kvs : List (List Key × V)) (us : List Tl) : Prop where
  ok : By H kvs us
  fr : ∀ k v, valV kvs k = some v → ∃ a xs, v = .ref a ∧ H0 a = none ∧ H a = some (.lst xs)
  inj : ∀ k k' a, valV kvs k = some (.ref a) → valV kvs k' = some (.ref a) → k = k'
theorem ByI.mono {H0 H H' : Hp} {kvs : List (List Key × V)} {us : List Tl} (h : ByI H0 H kvs us) (e : Ex H H') : ByI H0 H' kvs us :=
  ⟨fun w s => (h.ok w s).elim .inl fun ⟨v, h1, h2⟩ => .inr ⟨v, h1, Mo.mo _ _ _ e h2⟩, fun k v hk => let ⟨a, xs, h1, h2, h3⟩ := h.fr k v hk; ⟨a, xs, h1, h2, e _ _ h3⟩, h.inj⟩
theorem fit_snoc (us : List Tl) (t : Tl) (w s : Int) : fit (us ++ [t]) w s = fit us w s ++ if t.w = w ∧ t.s = s then [t] else [] := by
  unfold fit
  rw [List.filter_append]
  congr 1
  by_cases h : t.w = w ∧ t.s = s
  · rw [if_pos h, List.filter_cons, if_pos (by simpa using h), List.filter_nil]
  · rw [if_neg h, List.filter_cons, if_neg (by simpa using h), List.filter_nil]
theorem key_ne {t : Tl} {w s : Int} (h : ¬ (t.w = w ∧ t.s = s)) : ¬ ([Sum.inl w, Sum.inl s] : List Key) = [Sum.inl t.w, Sum.inl t.s] := fun e => by
  injection e with e1 e
  injection e with e2 e
  exact h ⟨(Sum.inl.inj e1).symm, (Sum.inl.inj e2).symm⟩
theorem pL_upd {ds : List PyData} {v : V} {H : Hp} {a : Addr} {o o0 : HO} (h : pL ds v H) (ha : H a = some o0) (hn : ∀ xs, o0 ≠ .tup xs) (hv : v ≠ .ref a) : pL ds v (upd H a o) := by
  obtain ⟨b, xs, rfl, h1, h2⟩ := h
  exact ⟨b, xs, rfl, by rw [upd_ne (fun e => hv (by rw [e]))]; exact h1, h2.m (Tsm.updO ha hn)⟩
/-- one more tile in a list that is there -/
theorem ByI.old {H0 H : Hp} {kvs : List (List Key × V)} {us : List Tl} {t : Tl} {a : Addr} {ls : List V} {x : V} (h : ByI H0 H kvs us) (hk : valV kvs [Sum.inl t.w, Sum.inl t.s] = some (.ref a)) (hl : H a = some (.lst ls)) (hx : Is H x (dT t)) : ByI H0 (upd H a (.lst (ls ++ [x]))) kvs (us ++ [t]) := by
  have nt : ∀ xs, HO.lst ls ≠ .tup xs := fun _ z => nomatch z
  refine ⟨fun w s => ?_, fun k v hv => ?_, h.inj⟩
  · rw [fit_snoc]
    by_cases hws : t.w = w ∧ t.s = s
    · obtain ⟨rfl, rfl⟩ := hws
      rw [if_pos ⟨rfl, rfl⟩]
      rcases h.ok t.w t.s with ⟨h1, _⟩ | ⟨v, h1, h2⟩
      · rw [hk] at h1; cases h1
      · rw [hk] at h1
        obtain rfl := Option.some.inj h1
        obtain ⟨a', ls', e, h3, h4⟩ := h2
        obtain rfl : a = a' := by injection e
        rw [hl] at h3
        obtain rfl : ls = ls' := by injection h3 with h3; injection h3
        refine .inr ⟨.ref a, hk, a, _, rfl, upd_same, ?_⟩
        rw [List.map_append]
        exact (h4.snoc hx).m (Tsm.updO hl nt)
    · rw [if_neg hws, List.append_nil]
      rcases h.ok w s with h1 | ⟨v, h1, h2⟩
      · exact .inl h1
      · refine .inr ⟨v, h1, pL_upd h2 hl nt fun e => ?_⟩
        rw [e] at h1
        exact key_ne hws (h.inj _ _ _ h1 hk)
  · obtain ⟨b, xs, h1, h2, h3⟩ := h.fr k v hv
    by_cases e : b = a
    · subst e
      exact ⟨b, _, h1, h2, upd_same⟩
    · exact ⟨b, xs, h1, h2, by rw [upd_ne e]; exact h3⟩
/-- a tile with sides that are new -/
theorem ByI.new {H0 H2 H : Hp} {d lz : Addr} {kvs : List (List Key × V)} {us : List Tl} {t : Tl} {x : V} (h : ByI H0 H2 kvs us) (e : Ex H2 H) (hd : H2 d = some (.dT kvs)) (hz : H2 lz = none) (hz0 : H0 lz = none) (hl : H lz = some (.lst [])) (hk : valV kvs [Sum.inl t.w, Sum.inl t.s] = none) (hx : Is H x (dT t)) :
    ByI H0 (upd (upd H d (.dT (putK kvs [Sum.inl t.w, Sum.inl t.s] (.ref lz)))) lz (.lst ([] ++ [x]))) (putK kvs [Sum.inl t.w, Sum.inl t.s] (.ref lz)) (us ++ [t]) := by
  have hdl : lz ≠ d := fun z => by rw [z, hd] at hz; cases hz
  have nt1 : ∀ xs, HO.dT kvs ≠ .tup xs := fun _ z => nomatch z
  have nt2 : ∀ xs, HO.lst [] ≠ .tup xs := fun _ z => nomatch z
  have hl' : (upd H d (.dT (putK kvs [Sum.inl t.w, Sum.inl t.s] (.ref lz)))) lz = some (.lst []) := by rw [upd_ne hdl]; exact hl
  have hold : ∀ k v, valV kvs k = some v → v ≠ .ref lz := fun k v hv z => by
    obtain ⟨b, xs, h1, h2, h3⟩ := h.fr k v hv
    rw [z] at h1
    obtain rfl : lz = b := by injection h1
    rw [hz] at h3
    cases h3
  have holdd : ∀ k v, valV kvs k = some v → v ≠ .ref d := fun k v hv z => by
    obtain ⟨b, xs, h1, h2, h3⟩ := h.fr k v hv
    rw [z] at h1
    obtain rfl : d = b := by injection h1
    rw [hd] at h3
    cases h3
  refine ⟨fun w s => ?_, fun k v hv => ?_, fun k k' a h1 h2 => ?_⟩
  · rw [fit_snoc, valV_put]
    by_cases hws : t.w = w ∧ t.s = s
    · obtain ⟨rfl, rfl⟩ := hws
      rw [if_pos rfl, if_pos ⟨rfl, rfl⟩]
      rcases h.ok t.w t.s with ⟨_, h1⟩ | ⟨v, h1, h2⟩
      · rw [h1]
        refine .inr ⟨.ref lz, rfl, lz, [x], rfl, upd_same, ?_⟩
        exact .cons ((hx.m (Tsm.updO (e _ _ hd) nt1)).m (Tsm.updO hl' nt2)) .nil
      · rw [hk] at h1; cases h1
    · rw [if_neg hws, List.append_nil, if_neg (key_ne hws)]
      rcases h.ok w s with h1 | ⟨v, h1, h2⟩
      · exact .inl h1
      · exact .inr ⟨v, h1, pL_upd (pL_upd (Mo.mo _ _ _ e h2) (e _ _ hd) nt1 (holdd _ _ h1)) hl' nt2 (hold _ _ h1)⟩
  · rw [valV_put] at hv
    by_cases hkk : k = [Sum.inl t.w, Sum.inl t.s]
    · rw [if_pos hkk] at hv
      obtain rfl := Option.some.inj hv
      exact ⟨lz, _, rfl, hz0, upd_same⟩
    · rw [if_neg hkk] at hv
      obtain ⟨b, xs, h1, h2, h3⟩ := h.fr k v hv
      refine ⟨b, xs, h1, h2, ?_⟩
      rw [upd_ne (fun z => hold k v hv (by rw [h1, z])), upd_ne (fun z => holdd k v hv (by rw [h1, z]))]
      exact e _ _ h3
  · rw [valV_put] at h1 h2
    by_cases hkk : k = [Sum.inl t.w, Sum.inl t.s]
    · rw [if_pos hkk] at h1
      by_cases hkk' : k' = [Sum.inl t.w, Sum.inl t.s]
      · rw [hkk, hkk']
      · rw [if_neg hkk'] at h2
        obtain rfl : lz = a := by injection Option.some.inj h1
        exact absurd rfl (hold _ _ h2)
    · rw [if_neg hkk] at h1
      by_cases hkk' : k' = [Sum.inl t.w, Sum.inl t.s]
      · rw [if_pos hkk'] at h2
        obtain rfl : lz = a := by injection Option.some.inj h2
        exact absurd rfl (hold _ _ h1)
      · rw [if_neg hkk'] at h2
        exact h.inj _ _ _ h1 h2
theorem evp_makeX {σ : L2.St} {H : Hp} {te : TE} {ι α : Type} {C : Addr} {pre : ι → Prop} {As : ι → List Pr} {R : ι → Pr} {E : XK} {c : α → Prop} {Pa : α → Pr} {R' : Pr} [m : ∀ a, Mo (Pa a)] (h : EvP te σ H (pEx c Pa)) (i : α → ι) (hp : ∀ a, c a → pre (i a)) (hA : ∀ a, As (i a) = [Pa a]) (hw : ∀ a v H, c a → R (i a) v H → R' v H) :
    EvP (tMake C (spI C pre As R) [] E (tCons te tNil)) σ H R' := fun H1 e Q q =>
  h H1 e _ fun y H2 e2 ⟨a, ca, pa⟩ x dx hx hdx hne => by
    have eN : Ex H2 (upd (upd H2 dx (.own x)) x (.ins C dx [])) := fun b o hb => by
      rw [upd_ne (ne_of_none hb hx), upd_ne (ne_of_none hb hdx)]
      exact hb
    refine ⟨i a, x, dx, [y], H2, rfl, upd_same, hx, eN, hp a ca, ?_, fun H3 k r => ⟨rfl, q _ H3 (e2.trans k) (hw a _ _ ca r)⟩⟩
    rw [hA]
    exact ⟨pa, trivial⟩
theorem pTiles_upd {ts : List Tl} {v : V} {H : Hp} {p C dx : Addr} {fs : List (Str × V)} {o : HO} (h : pTiles K ts v H) (hp : H p = some (.ins C dx fs)) (hl : fs.lookup ("tiles" : Str) = none) : pTiles K ts v (upd H p o) := by
  obtain ⟨q, dq, t, xs, d, kvs, rfl, h1, h2, h3, h4, h5⟩ := h
  have nt : ∀ xs, HO.ins C dx fs ≠ .tup xs := fun _ z => nomatch z
  refine ⟨q, dq, t, xs, d, kvs, rfl, ?_, ?_, h3.m (Tsm.updO hp nt), ?_, fun w s => (h5 w s).elim .inl fun ⟨u, h6, h7⟩ => .inr ⟨u, h6, pL_upd h7 hp nt fun e => ?_⟩⟩
  · rw [upd_ne (fun e => ?_)]
    · exact h1
    · rw [e, hp] at h1
      have h8 : fs = f2 "tiles" (.ref t) "_by_sides" (.ref d) := by injection h1 with h1; injection h1
      rw [h8, f2_1 _ _ nm4] at hl
      cases hl
  · rw [upd_ne (fun e => by rw [e, hp] at h2; cases h2)]
    exact h2
  · rw [upd_ne (fun e => by rw [e, hp] at h4; cases h4)]
    exact h4
  · obtain ⟨b, ys, e2, h8, _⟩ := h7
    rw [e] at e2
    obtain rfl : p = b := by injection e2
    rw [hp] at h8
    cases h8
theorem pStrip_upd {ts : List Tl} {v : V} {H : Hp} {p C dx : Addr} {fs : List (Str × V)} {o : HO} (h : pStrip K ts v H) (hp : H p = some (.ins C dx fs)) (hl : fs.lookup ("tiles" : Str) = none) : pStrip K ts v (upd H p o) := by
  obtain ⟨q, dq, u, rfl, h1, h2⟩ := h
  refine ⟨q, dq, u, rfl, ?_, pTiles_upd h2 hp hl⟩
  rw [upd_ne (fun e => ?_)]
  · exact h1
  · rw [e, hp] at h1
    have h8 : fs = f1 "tiles" u := by injection h1 with h1; injection h1
    rw [h8, f1_at] at hl
    cases hl
theorem tiles_ok {M : Mach} (h : M.Ok) {t : Tl} (ht : t ∈ M.tiles) : tlOk t := by
  have m16 := h.m16
  have s20 := h.s20
  cases kind_of_mem h ht with
  | blank a a0 am => exact ⟨⟨by show (0 : Int) ≤ 0; omega, by show (0 : Int) ≤ 999; omega⟩, ⟨a0, by show a ≤ 999; omega⟩, ⟨by show (0 : Int) ≤ 0; omega, by show (0 : Int) ≤ 999; omega⟩, a0, by show a ≤ 999; omega⟩
  | left q a q0 qs a0 am =>
    have hb := L_bound h q0 qs a0 am
    have m2 := h.m2
    exact ⟨⟨by show (0 : Int) ≤ 0; omega, by show (0 : Int) ≤ 999; omega⟩, ⟨by show 0 ≤ M.L a q; omega, by show M.L a q ≤ 999; omega⟩, ⟨by show 0 ≤ 1 + 2 * q; omega, by show 1 + 2 * q ≤ 999; omega⟩, a0, by show a ≤ 999; omega⟩
  | right q a q0 qs a0 am =>
    have hb := L_bound h q0 qs a0 am
    have m2 := h.m2
    exact ⟨⟨by show 0 ≤ 2 + 2 * q; omega, by show 2 + 2 * q ≤ 999; omega⟩, ⟨by show 0 ≤ M.L a q; omega, by show M.L a q ≤ 999; omega⟩, ⟨by show (0 : Int) ≤ 0; omega, by show (0 : Int) ≤ 999; omega⟩, a0, by show a ≤ 999; omega⟩
  | go1 q a w q' q0 qs a0 am e =>
    have hb := L_bound h q0 qs a0 am
    have m2 := h.m2
    obtain ⟨r1, r2, r3, r4, r5⟩ := row_ok h q0 qs a0 am _ _ _ e
    exact ⟨⟨by show 0 ≤ 1 + 2 * q'; omega, by show 1 + 2 * q' ≤ 999; omega⟩, ⟨r1, by show w ≤ 999; omega⟩, ⟨by show (0 : Int) ≤ 0; omega, by show (0 : Int) ≤ 999; omega⟩, by show 0 ≤ M.L a q; omega, by show M.L a q ≤ 999; omega⟩
  | go2 q a w q' q0 qs a0 am e =>
    have hb := L_bound h q0 qs a0 am
    have m2 := h.m2
    obtain ⟨r1, r2, r3, r4, r5⟩ := row_ok h q0 qs a0 am _ _ _ e
    exact ⟨⟨by show (0 : Int) ≤ 0; omega, by show (0 : Int) ≤ 999; omega⟩, ⟨r1, by show w ≤ 999; omega⟩, ⟨by show 0 ≤ 2 + 2 * q'; omega, by show 2 + 2 * q' ≤ 999; omega⟩, by show 0 ≤ M.L a q; omega, by show M.L a q ≤ 999; omega⟩
/-- d.setdefault(y, []).append(e), unfolded -/
theorem s_dsa {σ : L2.St} {H : Hp} {D : Ends} {td ty te : TE} (h : td σ H fun x H1 => ∃ a, x = .ref a ∧ IsD H1 a ∧ ty σ H1 fun y H2 => (tLst tNil) σ H2 fun z H3 => ∃ (b : Addr) (kvs : List (List Key × V)) (k : List Key), y = .ref b ∧ H3 a = some (.dT kvs) ∧ H3 b = some (.tup (k.map kV)) ∧ kvs.length < sizeLine ∧
    (∀ v, valV kvs k = some v → tyV K "list" v H3 ∧ te σ H3 fun e H4 => rAppend v [e] H4 fun _ H5 => D.nx σ H5) ∧ (valV kvs k = none → tyV K "list" z (upd H3 a (.dT (putK kvs k z))) ∧ te σ (upd H3 a (.dT (putK kvs k z))) fun e H4 => rAppend z [e] H4 fun _ H5 => D.nx σ H5)) :
    tDrop (tBM K "list" rAppend (tDSetT td ty (tLst tNil)) (tCons te tNil)) D σ H := h
-- Tiles.__init__: slots 0:self 1:tiles 2:tile; level 2; callees _is_tile
theorem sc_Tiles_init : FnScope ["self", "tiles", "tile"] ["self", "tiles"] (defScope s_Tiles_init) := ⟨rfl, rfl, rfl, by decide +kernel, rfl, by decide +kernel, by decide +kernel⟩
theorem ok_Tiles_init (T : Txt K mg) : FnOk P w K mg base CX0 2 (He.fAd K ("Tiles", some "__init__")) T.fd_Tiles_init ["self", "tiles"] (sp_Tiles_init K) := by
  have G_is_tile := ok_is_tile (P := P) (w := w) (base := base) T
  have b_is_tile : Binds K T.fd_is_tile ["value"] [] := T.F_is_tile.bindsN fun _ _ _ _ _ _ us hl => match us, hl with | [_], _ => rfl
  have sc := sc_Tiles_init
  refine T.F_Tiles_init.ok sc_Tiles_init (fun vs H Q E h => ?_) (fun cdv A outer s H vs Q E hr h => ?_)
  · unfold sp_Tiles_init at h
    obtain ⟨i, p, dx, ws, H0, e, _, _, _, _, q, _⟩ := h
    rw [e]
    exact congrArg (· + 1) q.len
  have hun := hu_of hr
  obtain ⟨ts, p, dx, ws, H0, rfl, hp, hp0, e0, ⟨hnd, hz, hok⟩, pp, k⟩ := h
  obtain ⟨tl, rfl, htl0⟩ := pl1 pp
  refine ⟨_, PSs.nox (pss_cons (ps_if (PW.pt (pw_or (pt_cmpR op_gt (pe_callB call_len_seq (by rfl) T.f_len (by decide +kernel) (pa_cons (pv 1) pa_nil)) (pe_glob (v := .int 1000) rfl T.i_MOST_TILES ⟨_, rfl⟩) (nomark _)) (pw_or1 (pt_not (pt_val (pe_callB (cr_all rfl) (by rfl) T.f_all (by decide +kernel) (pa_cons (pe_lc (own := [("tile", 2)]) (g := gName 2) (tt := tYes) rfl sc.nd (pi_list (pv 1)) (blkOk_by (N := ["self", "tiles", "tile"]) (sc := defScope s_Tiles_init) (by decide +kernel)) (fun _ _ _ _ _ => pg_name (i := 2) sc.nd rfl (Or.inl rfl)) (fun _ _ _ _ _ => pts_nil) (fun _ _ _ _ _ => (pe_call G_is_tile (hr.mono (by decide)) rfl T.g_is_tile T.F_is_tile.kp b_is_tile .nil pass0 (pa_cons (pv 2) pa_nil)))) pa_nil)))))))
       (pss_one (ps_never))
       pss_nil)
      (pss_cons (ps_if (pt_cmpR op_ne (pe_callB call_len_dT (by rfl) T.f_len (by decide +kernel) (pa_cons (pe_dcP (own := [("tile", 2)]) (g := gName 2) (Or.inr rfl) hun rfl sc.nd (pi_list (pv 1)) (blkOk_by (N := ["self", "tiles", "tile"]) (sc := defScope s_Tiles_init) (by decide +kernel)) (fun _ _ _ _ _ => pg_name (i := 2) sc.nd rfl (Or.inl rfl)) (fun _ _ _ _ _ => (pv 2)) (fun _ _ _ _ _ => pe_bl)) pa_nil)) (pe_callB call_len_seq (by rfl) T.f_len (by decide +kernel) (pa_cons (pv 1) pa_nil)) (nomark _))
       (pss_one (ps_never))
       pss_nil)
      (pss_cons (ps_fld (pv 0) (pe_callTy call_tuple_of (by rfl) T.f_tuple (by decide +kernel) (pa_cons (pe_callB (cr_sortedD (hq_of hr (by decide))) (by rfl) T.f_sorted (by decide +kernel) (pa_cons (pv 1) pa_nil)) pa_nil)) rfl)
      (pss_cons (ps_fld (pv 0) pe_dnewT rfl)
      (pss_one (ps_for PassesOwn.never rfl (pi_tup (pe_fld (pv 0) rfl)) (pg_name (i := 2) sc.nd rfl (Or.inl rfl))
       (pss_one (ps_expr (pe_bm PySem.F.plainAttrs_list PySem.F.slot_list_append PySem.F.type_list_append mt_append (pe_dsetT hun (pe_fld (pv 0) rfl) (pe_tup (pa_cons (pe_ix ix_tup (pv 2) pe_int (fun _ _ => rfl)) (pa_cons (pe_ix ix_tup (pv 2) pe_int (fun _ _ => rfl)) pa_nil))) (pe_lst pa_nil) ⟨by rfl, by rfl, by rfl, by rfl⟩) (pa_cons (pv 2) pa_nil)))))))))), ?_⟩
  have hz : ts.length ≤ 1000 := hz
  have htl : pL (ts.map dT) tl H := Mo.mo _ _ _ e0 htl0
  have hbools : ((ts.map dT).filter fun _ => true).map (fun _ => PyData.bool true) = (ts.map fun _ => true).map PyData.bool := by
    rw [List.filter_eq_self.mpr (fun _ _ => rfl), List.map_map, List.map_map]
    rfl
  refine q_when (b := false) (et_is (et_or (et_test (ev_I (ev_lenL (evl_v rfl htl)) ev_c)) fun _ => et_not (et_B (ev_all (bs := ts.map fun _ => true) ?_))) ?_) (fun z => nomatch z) fun _ H1 e1 => ?_
  · rw [← hbools]
    refine evp_n (evn_lcL (fun _ => true) (fun _ => .bool true) (evl_v rfl htl) (by rw [List.length_map]; omega) fun j d y H3 e3 hd hy => ?_)
    obtain ⟨t, ht, rfl⟩ := tls_at hd
    exact turn_name (j := 2) rfl et_yes fun _ => evd_bool (ev_of (evp_call t (hok t (List.mem_of_getElem? ht)) (evps_cons (P := pD (dT t)) (evd_v rfl hy) evps_nil)))
  · rw [List.length_map, decide_eq_false (by omega)]
    simp
  have htl1 : pL (ts.map dT) tl H1 := Mo.mo _ _ _ e1 htl
  refine q_when (b := false) (et_test (ev_is (ev_neI (ev_lenDc (evl_v rfl htl1) hnd hz (fun _ => rfl) fun _ => rfl) (ev_lenL (evl_v rfl htl1))) (by rw [List.length_map, decide_eq_true rfl]; rfl))) (fun z => nomatch z) fun _ H2 e2 => ?_
  refine q_fldP (P := pEx (fun ts' : List Tl => ts'.Perm ts) fun ts' => pD (dTs ts')) (evp_tupTiles (evl_v rfl (Mo.mo _ _ _ e2 htl1))) (ev_var rfl) (e2 _ _ (e1 _ _ hp)) T.c_Tiles T.n_Tiles_tiles (by simp) fun y H3 e3 hy hp3 => ?_
  obtain ⟨us, hperm, hy⟩ := hy
  obtain ⟨ta, xs, rfl, hta, hxs⟩ := is_tup.mp (show Is H3 y (.tuple (us.map dT)) from hy)
  have hul : us.length ≤ 1000 := by rw [hperm.length_eq]; exact hz
  have e03 : Ex H0 (upd H3 p (.ins (cTiles K) dx (f1 "tiles" (.ref ta)))) := Ex.mut (((e0.trans e1).trans e2).trans e3) hp0
  have ntp : ∀ (fs : List (Str × V)) xs, HO.ins (cTiles K) dx fs ≠ .tup xs := fun _ _ z => nomatch z
  have hta4 : (upd H3 p (.ins (cTiles K) dx (f1 "tiles" (.ref ta)))) ta = some (.tup xs) := by rw [upd_ne (fun e => by rw [e, hp3] at hta; cases hta)]; exact hta
  have hxs4 := hxs.m (Tsm.updO (o := .ins (cTiles K) dx (f1 "tiles" (.ref ta))) hp3 (ntp _))
  -- self._by_sides = {}
  refine fun d hd => (ev_var rfl) _ (Ex.new hd) _ fun H5 e5 => ⟨p, cTiles K, dx, f1 "tiles" (.ref ta), rfl, e5 _ _ ((Ex.new hd) _ _ upd_same), T.c_Tiles, T.n_Tiles_by_sides, Nat.lt_of_le_of_lt (f1_len _ _) (by decide), ?_⟩
  have e45 := (Ex.new (o := .dT []) hd).trans e5
  have hd0 : H0 d = none := fresh_back e03 hd
  have hp5 : H5 p = some (.ins (cTiles K) dx (f1 "tiles" (.ref ta))) := e45 _ _ upd_same
  have e06 : Ex H0 (upd H5 p (.ins (cTiles K) dx (f2 "tiles" (.ref ta) "_by_sides" (.ref d)))) := Ex.mut (e03.trans e45) hp0
  have t56 : Tsm H5 (upd H5 p (.ins (cTiles K) dx (f2 "tiles" (.ref ta) "_by_sides" (.ref d)))) := Tsm.updO hp5 (ntp _)
  have hd6 : (upd H5 p (.ins (cTiles K) dx (f2 "tiles" (.ref ta) "_by_sides" (.ref d)))) d = some (.dT []) := by
    have h1 : H5 d = some (.dT []) := e5 _ _ upd_same
    rw [upd_ne (fun e => by rw [e, hp5] at h1; cases h1)]
    exact h1
  refine s_forD (ds := us.map dT) (evp_is (ev_fld (ev_var rfl) upd_same T.c_Tiles T.n_Tiles_tiles (f2_1 _ _ nm4)) (.tup (t56 _ _ (e45 _ _ hta4)) ((hxs4.m (Tsm.ex e45)).m t56))) (fun m σ' H' => Ex H0 H' ∧ H' p = some (.ins (cTiles K) dx (f2 "tiles" (.ref ta) "_by_sides" (.ref d))) ∧ H' ta = some (.tup xs) ∧ Iss H' xs (us.map dT) ∧
      ∃ (kvs : List (List Key × V)) (z : Option V), H' d = some (.dT kvs) ∧ kvs.length ≤ m ∧ ByI H0 H' kvs (us.take m) ∧ σ' = [some (.ref p), some tl, z])
    (fun H7 e7 => ⟨e06.trans e7, e7 _ _ upd_same, e7 _ _ (t56 _ _ (e45 _ _ hta4)), ((hxs4.m (Tsm.ex e45)).m t56).m (Tsm.ex e7), [], none, e7 _ _ hd6, Nat.le_refl _, ⟨fun w s => .inl ⟨rfl, rfl⟩, fun k v hv => (by cases hv), fun k k' a h1 _ => (by cases h1)⟩, rfl⟩) (fun HB m dd x σ' H' tB hdd hx ⟨e7, h1, h2, h3, kvs, z, h4, h5, h6, es⟩ => ?_) fun σ' H' ⟨e7, h1, h2, h3, kvs, z, h4, h5, h6, es⟩ => ?_
  · subst es
    obtain ⟨t, ht, rfl⟩ := tls_at hdd
    have hm : m < us.length := (List.getElem?_eq_some_iff.mp ht).1
    have htake : us.take (m + 1) = us.take m ++ [t] := by
      rw [List.take_add_one, ht]
      rfl
    have hx' : Is H' x (dI [t.e, t.n, t.w, t.s]) := hx
    refine s_dsa ?_
    refine (ev_fld (ev_var rfl) h1 T.c_Tiles T.n_Tiles_by_sides (f2_2 _ _ _ _)) H' (Ex.refl H') _ fun H8 e8 => ⟨d, rfl, .inr ⟨kvs, .inl (e8 _ _ h4)⟩, ?_⟩
    refine (eu_tup (ea_cons (ev_intT (j := 2) (evd_v rfl hx') ev_c rfl (by simp)) (ea_cons (ev_intT (j := 3) (evd_v rfl hx') ev_c rfl (by simp)) ea_nil)) (by simp)) H8 e8 _ fun kt H9 hkt e9 hk9 => ?_
    refine (evn_lst evds_nil (by simp)) H9 (Ex.refl H9) _ fun lz zs H10 hlz e10 hl10 hx10 => ?_
    obtain rfl : zs = [] := by cases hx10; rfl
    have e710 := (e8.trans e9).trans e10
    have hd10 := e710 _ _ h4
    refine ⟨kt, kvs, [Sum.inl t.w, Sum.inl t.s], rfl, hd10, e10 _ _ hk9, sz_lt (by omega), fun v hv => ?_, fun hv => ?_⟩
    · obtain ⟨a, ls, rfl, ha0, hla⟩ := (h6.mono e710).fr _ _ hv
      have hlen : ls.length ≤ 1000 := by
        rcases (h6.mono e710).ok t.w t.s with ⟨g1, _⟩ | ⟨v, g1, b, ys, ev, g3, g4⟩
        · rw [hv] at g1; cases g1
        · rw [hv] at g1
          have g5 : V.ref a = v := Option.some.inj g1
          rw [← g5] at ev
          obtain rfl : a = b := by injection ev
          rw [hla] at g3
          obtain rfl : ls = ys := by injection g3 with g3; injection g3
          rw [g4.len, List.length_map]
          exact Nat.le_trans (List.length_filter_le _ _) (by rw [List.length_take]; omega)
      refine ⟨Or.inl ⟨rfl, ls, sq_of hla⟩, (ev_var rfl) H10 (Ex.refl H10) _ fun H11 e11 => ⟨a, ls, x, rfl, rfl, e11 _ _ hla, sz_lt (by omega), ?_⟩⟩
      have eT := e710.trans e11
      have tT : Tsm H11 (upd H11 a (.lst (ls ++ [x]))) := Tsm.updL (e11 _ _ hla)
      refine ⟨tB.trans ((Tsm.ex eT).trans tT), Ex.mut (e7.trans eT) ha0, ?_, tT _ _ (eT _ _ h2), (h3.m (Tsm.ex eT)).m tT, kvs, some x, ?_, by omega, ?_, rfl⟩
      · rw [upd_ne (fun e => by have := eT _ _ h1; rw [e, e11 _ _ hla] at this; cases this)]
        exact eT _ _ h1
      · rw [upd_ne (fun e => by have := eT _ _ h4; rw [e, e11 _ _ hla] at this; cases this)]
        exact eT _ _ h4
      · rw [htake]
        exact ((h6.mono eT).old hv (e11 _ _ hla) (hx.m (Tsm.ex eT)))
    · have hlz0 : H0 lz = none := fresh_back (e7.trans (e8.trans e9)) hlz
      have hlzH : H' lz = none := fresh_back (e8.trans e9) hlz
      have hdlz : lz ≠ d := fun e => by rw [e, h4] at hlzH; cases hlzH
      have hl11 : (upd H10 d (.dT (putK kvs [Sum.inl t.w, Sum.inl t.s] (.ref lz)))) lz = some (.lst []) := by rw [upd_ne hdlz]; exact hl10
      refine ⟨Or.inl ⟨rfl, [], sq_of hl11⟩, x, rfl, lz, [], x, rfl, rfl, hl11, sz_lt (by simp), ?_⟩
      have t1 : Tsm H10 (upd H10 d (.dT (putK kvs [Sum.inl t.w, Sum.inl t.s] (.ref lz)))) := Tsm.updO hd10 fun _ z => nomatch z
      have t2 : Tsm (upd H10 d (.dT (putK kvs [Sum.inl t.w, Sum.inl t.s] (.ref lz)))) (upd (upd H10 d (.dT (putK kvs [Sum.inl t.w, Sum.inl t.s] (.ref lz)))) lz (.lst ([] ++ [x]))) := Tsm.updL hl11
      have tT := ((Tsm.ex e710).trans t1).trans t2
      refine ⟨tB.trans tT, Ex.mut (Ex.mut (e7.trans e710) hd0) hlz0, ?_, tT _ _ h2, h3.m tT, putK kvs [Sum.inl t.w, Sum.inl t.s] (.ref lz), some x, ?_, Nat.le_trans (length_putK _ _ _) (Nat.succ_le_succ h5), ?_, rfl⟩
      · rw [upd_ne (fun e => by rw [e, hlzH] at h1; cases h1), upd_ne (fun e => by rw [e, h4] at h1; cases h1)]
        exact e710 _ _ h1
      · rw [upd_ne (Ne.symm hdlz)]
        exact upd_same
      · rw [htake]
        exact (h6.mono (e8.trans e9)).new e10 (e9 _ _ (e8 _ _ h4)) hlz hlz0 hl10 hv (hx.m (Tsm.ex e710))
  · subst es
    rw [List.length_map, List.take_length] at h6
    exact k H' e7 ⟨us, hperm, p, dx, ta, xs, d, kvs, rfl, h1, h2, h3, h4, h6.ok⟩
-- TileStair.__init__: slots 0:self 1:machine; level 4; callees Strip.__init__, Tiles.__init__, tiles_of
theorem sc_TileStair_init : FnScope ["self", "machine"] ["self", "machine"] (defScope s_TileStair_init) := ⟨rfl, rfl, rfl, by decide +kernel, rfl, by decide +kernel, by decide +kernel⟩
theorem ok_TileStair_init (T : Txt K mg) : FnOk P w K mg base CX0 4 (He.fAd K ("TileStair", some "__init__")) T.fd_TileStair_init ["self", "machine"] (sp_TileStair_init K) := by
  have G_Strip_init := ok_Strip_init (P := P) (w := w) (base := base) T
  have b_Strip_init : Binds K T.fd_Strip_init ["self", "tiles"] [] := T.F_Strip_init.bindsN fun _ _ _ _ _ _ us hl => match us, hl with | [_, _], _ => rfl
  have G_Tiles_init := ok_Tiles_init (P := P) (w := w) (base := base) T
  have b_Tiles_init : Binds K T.fd_Tiles_init ["self", "tiles"] [] := T.F_Tiles_init.bindsN fun _ _ _ _ _ _ us hl => match us, hl with | [_, _], _ => rfl
  have G_tiles_of := ok_tiles_of (P := P) (w := w) (base := base) T
  have b_tiles_of : Binds K T.fd_tiles_of ["machine"] [] := T.F_tiles_of.bindsN fun _ _ _ _ _ _ us hl => match us, hl with | [_], _ => rfl
  have sc := sc_TileStair_init
  refine T.F_TileStair_init.ok sc_TileStair_init (fun vs H Q E h => ?_) (fun cdv A outer s H vs Q E hr h => ?_)
  · unfold sp_TileStair_init at h
    obtain ⟨i, p, dx, ws, H0, e, _, _, _, _, q, _⟩ := h
    rw [e]
    exact congrArg (· + 1) q.len
  obtain ⟨M, p, dx, ws, H0, rfl, hp, hp0, e0, hM, pp, k⟩ := h
  obtain ⟨v, rfl, hv0⟩ := pl1 pp
  refine ⟨_, PSs.nox (pss_cons (ps_fld (pv 0) (pv 1) rfl)
      (pss_one (ps_fld (pv 0) (pe_make T.k_Strip G_Strip_init (hr.mono (by decide)) rfl T.g_Strip b_Strip_init .nil pass0 (pa_cons (pe_make T.k_Tiles G_Tiles_init (hr.mono (by decide)) rfl T.g_Tiles b_Tiles_init .nil pass0 (pa_cons (pe_call G_tiles_of (hr.mono (by decide)) rfl T.g_tiles_of T.F_tiles_of.kp b_tiles_of .nil pass0 (pa_cons (pv 1) pa_nil)) pa_nil)) pa_nil)) rfl))), ?_⟩
  have hM : M.Ok := hM
  refine q_fldP (P := pV v) (evp (ev_var rfl)) (ev_var rfl) hp T.c_TileStair T.n_TileStair_upper (by simp) fun y H1 e1 hy hp1 => ?_
  obtain rfl : y = v := hy
  have e01 : Ex H0 (upd H1 p (.ins (cStair K) dx (f1 "upper" y))) := Ex.mut (e0.trans e1) hp0
  have hv1 : pTape K M y (upd H1 p (.ins (cStair K) dx (f1 "upper" y))) := Mo.mo _ _ _ e01 hv0
  refine s_fldP (P := pEx (fun ts => ts.Perm M.tiles) fun ts => pStrip K ts) (evp_makeX (c := fun ts : List Tl => ts.Perm M.tiles) (Pa := fun ts => pTiles K ts) (evp_make M.tiles ⟨tiles_nd hM, Nat.le_trans (tiles_len hM) (by decide), fun t ht => tiles_ok hM ht⟩ (evps_cons (P := pL (M.tiles.map dT)) (evp_call M hM (evps_cons (P := pTape K M) (evp_var rfl hv1) evps_nil)) evps_nil)) id (fun ts ht => ?_) (fun _ => rfl) fun ts v H ht r => ⟨ts, ht, r⟩) (ev_var rfl) upd_same T.c_TileStair T.n_TileStair_lower (Nat.lt_of_le_of_lt (f1_len _ _) (by decide)) fun z H2 e2 ⟨ts, ht, hz⟩ hp2 => ?_
  · have m2 := hM.m2
    exact ht.mem_iff.mpr (mem_blank (by omega) (by omega))
  · have e02 : Ex H0 (upd H2 p (.ins (cStair K) dx (f2 "upper" y "lower" z))) := Ex.mut (e01.trans e2) hp0
    exact k _ e02 ⟨ts, ht, p, dx, y, z, rfl, upd_same, Mo.mo _ _ _ e02 hv0, pStrip_upd hz hp2 (f1_no _ (by decide +kernel))⟩
end
end SD
end
section
set_option Elab.async false
set_option linter.all false
set_option maxRecDepth 100000
set_option maxHeartbeats 4000000
namespace SD
open PySem L2 Evl SDR
section
variable {P : Program} {w : World} {K : PySem.W.Frag} {mg : Str → Option Value} {base : Heap}
theorem q_par {σ : L2.St} {H : Hp} {ta : TA} {D : Ends} {tz : TS} {i j : Nat} {P1 P2 : Pr} (h : EvPs ta σ H (Pl [P1, P2])) (k : ∀ v w H1, Ex H H1 → P1 v H1 → P2 w H1 → tz D ((σ.set i (some v)).set j (some w)) H1) : tSeq (tPar i j ta) tz D σ H :=
  h H (Ex.refl H) _ fun vs H1 e p => by
    obtain ⟨v, w, rfl, p1, p2⟩ := pl2 p
    exact ⟨v, w, rfl, k v w H1 e p1 p2⟩
theorem s_par {σ : L2.St} {H : Hp} {ta : TA} {D : Ends} {i j : Nat} {P1 P2 : Pr} (h : EvPs ta σ H (Pl [P1, P2])) (k : ∀ v w H1, Ex H H1 → P1 v H1 → P2 w H1 → D.nx ((σ.set i (some v)).set j (some w)) H1) : tPar i j ta D σ H :=
  h H (Ex.refl H) _ fun vs H1 e p => by
    obtain ⟨v, w, rfl, p1, p2⟩ := pl2 p
    exact ⟨v, w, rfl, k v w H1 e p1 p2⟩
/-- if c: x = e, both ways told by one predicate -/
theorem q_whenAsg {σ : L2.St} {H : Hp} {t : TT} {te : TE} {D : Ends} {tz : TS} {b : Bool} {i : Nat} {P : Pr} [m : Mo P] (h : EvT t σ H b) (h1 : b = true → EvP te σ H P) (h2 : b = false → ∃ v, σ.set i (some v) = σ ∧ P v H) (k : ∀ v H1, Ex H H1 → P v H1 → tz D (σ.set i (some v)) H1) : tSeq (tIfS t (tAsg te (gName i)) tNext) tz D σ H :=
  q_when h (fun hb H1 e1 => s_asgP (D := { D with nx := tz D }) ((h1 hb).up e1) fun v H2 e2 p => k v H2 (e1.trans e2) p) fun hb H1 e1 => by
    obtain ⟨v, hv, p⟩ := h2 hb
    have g := k v H1 e1 (m.mo _ _ _ e1 p)
    rw [hv] at g
    exact g
/-- an if, both ways told by a word of what stands behind -/
theorem q_whenJ {σ : L2.St} {H : Hp} {t : TT} {tu : TS} {D : Ends} {tz : TS} {b : Bool} (Mid : L2.St → Hp → Prop) (h : EvT t σ H b) (h1 : b = true → ∀ H1, Ex H H1 → ∀ N : L2.St → Hp → Prop, (∀ σ' H', Mid σ' H' → N σ' H') → tu { D with nx := N } σ H1) (h2 : b = false → ∀ H1, Ex H H1 → Mid σ H1) (k : ∀ σ' H', Mid σ' H' → tz D σ' H') : tSeq (tIfS t tu tNext) tz D σ H :=
  q_when h (fun hb H1 e1 => h1 hb H1 e1 (tz D) k) fun hb H1 e1 => k _ _ (h2 hb H1 e1)
/-- calls one of whose arguments is only known to be some value -/
theorem evp_callX {σ : L2.St} {H : Hp} {ta : TA} {ι α : Type} {pre : ι → Prop} {As : ι → List Pr} {R : ι → Pr} {E : XK} {c : α → Prop} {R' : Pr} (i : α → ι) (h : EvPs ta σ H fun vs H => ∃ a, c a ∧ Pl (As (i a)) vs H) (hp : ∀ a, c a → pre (i a)) (hw : ∀ a v H, c a → R (i a) v H → R' v H) : EvP (tCall (spP pre As R) [] E ta) σ H R' := fun H1 e Q q =>
  h H1 e _ fun vs H2 e2 ⟨a, ca, p⟩ => by
    rw [List.append_nil]
    exact ⟨i a, hp a ca, p, fun v H3 e3 r => q v H3 (e2.trans e3) (hw a v H3 ca r)⟩
theorem evps_X1 {σ : L2.St} {H : Hp} {te : TE} {tr : TA} {α : Type} {c : α → Prop} {Pa : α → Pr} {Ps : List Pr} [m : ∀ a, Mo (Pa a)] (h : EvP te σ H (pEx c Pa)) (hr : EvPs tr σ H (Pl Ps)) : EvPs (tCons te tr) σ H fun vs H => ∃ a, c a ∧ Pl (Pa a :: Ps) vs H := fun H1 e Q q =>
  h H1 e _ fun v H2 e2 ⟨a, ca, p⟩ => hr H2 (e.trans e2) _ fun vs H3 e3 ps => q _ H3 (e2.trans e3) ⟨a, ca, (m a).mo v H2 H3 e3 p, ps⟩
theorem evps_XS {σ : L2.St} {H : Hp} {te : TE} {tr : TA} {α : Type} {c : α → Prop} {P : Pr} {Ps : α → List Pr} [m : Mo P] (h : EvP te σ H P) (hr : EvPs tr σ H fun vs H => ∃ a, c a ∧ Pl (Ps a) vs H) : EvPs (tCons te tr) σ H fun vs H => ∃ a, c a ∧ Pl (P :: Ps a) vs H := fun H1 e Q q =>
  h H1 e _ fun v H2 e2 p => hr H2 (e.trans e2) _ fun vs H3 e3 ⟨a, ca, ps⟩ => q _ H3 (e2.trans e3) ⟨a, ca, m.mo v H2 H3 e3 p, ps⟩
theorem evp_xAI {σ : L2.St} {H : Hp} {te : TE} (h : EvP te σ H pAI) : EvP te σ H (pEx (fun _ : Int => True) fun z => pI z) := h.wk fun v H' _ ⟨z, e⟩ => ⟨z, trivial, e⟩
/-- a cell of the script -/
theorem evp_cell {σ : L2.St} {H : Hp} {te tk : TE} {E : XK} {ns : List Int} {v : V} {j : Int} (hj : 0 ≤ j) (h : Ev te σ H v) (hs : pScr K ns v H) (hk : Ev tk σ H (.int j)) : EvP (tCall (sp_law_cell K) [] E (tCons te (tCons tk tNil))) σ H pAI :=
  evp_call (ns, j) hj (evps_cons (evp_is h hs) (evps_cons (evp hk) evps_nil))
theorem sh_none : SeqAt.shaped PyData.none = true := by simp [SeqAt.shaped, PyData.canLay0, PyData.depth]
theorem sh_step (ts : List Tl) (line : List Int) : SeqAt.shaped (stepD ts line) = true := by
  unfold stepD
  cases stepO ts line with
  | none => exact sh_none
  | some l => exact sh_dI l
theorem sh_pair (ns : List Int) (k : Int) : SeqAt.shaped (.tuple [dI ns, .int k]) = true := by
  obtain ⟨h1, h2⟩ := all_ints ns
  simp [SeqAt.shaped, PyData.canLay0, PyData.canLayAll0, PyData.depth, PyData.depthAll, h1, h2]
theorem evd_cutS {σ : L2.St} {H : Hp} {ta : TE} {E : XK} {ns : List Int} (ha : EvP ta σ H (pS ns)) (hl : ns.length ≤ 1000) : EvD (tCall sp_law_cut [] E (tCons ta tNil)) σ H (dI (woe ns)) := evp_call ns hl (evps_cons (P := pS ns) ha evps_nil)
-- _law_others: slots 0:_law_machine 1:_law_stair 2:_law_cell_here 3:_law_digits_here 4:_law_first 5:_law_second 6:_law_one 7:_law_two 8:_law_line_here 9:_law_found 10:_law_due 11:_law_told 12:_law_letter_here; level 6; callees Strip.step, Strip.stopped, _law_configuration, _law_cut, _law_digits, _law_floors, _law_line, _law_tiles
theorem sc_law_others : FnScope ["_law_machine", "_law_stair", "_law_cell_here", "_law_digits_here", "_law_first", "_law_second", "_law_one", "_law_two", "_law_line_here", "_law_found", "_law_due", "_law_told", "_law_letter_here"] ["_law_machine", "_law_stair", "_law_cell_here"] (defScope s_law_others) := ⟨rfl, rfl, rfl, by decide +kernel, rfl, by decide +kernel, by decide +kernel⟩
theorem ok_law_others (T : Txt K mg) : FnOk P w K mg base CX0 6 (He.fAd K ("_law_others", none)) T.fd_law_others ["_law_machine", "_law_stair", "_law_cell_here"] (sp_law_others K) := by
  have G_Strip_step := ok_Strip_step (P := P) (w := w) (base := base) T
  have b_Strip_step : Binds K T.fd_Strip_step ["self", "configuration"] [] := T.F_Strip_step.bindsN fun _ _ _ _ _ _ us hl => match us, hl with | [_, _], _ => rfl
  have G_Strip_stopped := ok_Strip_stopped (P := P) (w := w) (base := base) T
  have b_Strip_stopped : Binds K T.fd_Strip_stopped ["self", "configuration"] [] := T.F_Strip_stopped.bindsN fun _ _ _ _ _ _ us hl => match us, hl with | [_, _], _ => rfl
  have G_law_configuration := ok_law_configuration (P := P) (w := w) (base := base) T
  have b_law_configuration : Binds K T.fd_law_configuration ["_law_machine", "_law_cell_here"] [] := T.F_law_configuration.bindsN fun _ _ _ _ _ _ us hl => match us, hl with | [_, _], _ => rfl
  have G_law_cut := ok_law_cut (P := P) (w := w) (base := base) T
  have b_law_cut : Binds K T.fd_law_cut ["_law_row"] [] := T.F_law_cut.bindsN fun _ _ _ _ _ _ us hl => match us, hl with | [_], _ => rfl
  have G_law_digits := ok_law_digits (P := P) (w := w) (base := base) T
  have b_law_digits : Binds K T.fd_law_digits ["_law_cell_here", "_law_count", "_law_many"] [] := T.F_law_digits.bindsN fun _ _ _ _ _ _ us hl => match us, hl with | [_, _, _], _ => rfl
  have G_law_floors := ok_law_floors (P := P) (w := w) (base := base) T
  have b_law_floors : Binds K T.fd_law_floors ["_law_tiles_here", "_law_line_here"] [] := T.F_law_floors.bindsN fun _ _ _ _ _ _ us hl => match us, hl with | [_, _], _ => rfl
  have G_law_line := ok_law_line (P := P) (w := w) (base := base) T
  have b_law_line : Binds K T.fd_law_line ["_law_machine", "_law_configuration_here"] [] := T.F_law_line.bindsN fun _ _ _ _ _ _ us hl => match us, hl with | [_, _], _ => rfl
  have G_law_tiles := ok_law_tiles (P := P) (w := w) (base := base) T
  have b_law_tiles : Binds K T.fd_law_tiles ["_law_machine"] [] := T.F_law_tiles.bindsN fun _ _ _ _ _ _ us hl => match us, hl with | [_], _ => rfl
  have sc := sc_law_others
  refine T.F_law_others.ok sc_law_others (fun vs H Q E h => ?_) (fun cdv A outer s H vs Q E hr h => ?_)
  · unfold sp_law_others at h
    obtain ⟨i, _, p, _⟩ := h
    exact p.len
  obtain ⟨⟨M, ts, cell⟩, ⟨hM, hperm⟩, p, k⟩ := h
  dsimp only at p
  obtain ⟨v, sv, _, rfl, hv, hs, rfl⟩ := pl3 p
  refine ⟨_, PSs.nox (pss_cons (ps_set (i := 3) sc.nd rfl (Or.inl rfl) (pe_call G_law_digits (hr.mono (by decide)) rfl T.g_law_digits T.F_law_digits.kp b_law_digits .nil pass0 (pa_cons (pv 2) (pa_cons pe_int (pa_cons pe_int pa_nil)))))
      (pss_cons (ps_par (i := 4) (j := 5) rfl sc.nd rfl rfl (by decide) rfl rfl (pa_cons (pe_call G_law_configuration (hr.mono (by decide)) rfl T.g_law_configuration T.F_law_configuration.kp b_law_configuration .nil pass0 (pa_cons (pv 0) (pa_cons (pe_op op_add (pe_callTy call_int1 (by rfl) T.f_int (by decide +kernel) (pa_cons (pv 2) pa_nil)) pe_int) pa_nil))) (pa_cons (pe_call G_law_configuration (hr.mono (by decide)) rfl T.g_law_configuration T.F_law_configuration.kp b_law_configuration .nil pass0 (pa_cons (pv 0) (pa_cons (pe_op op_add (pe_callTy call_int1 (by rfl) T.f_int (by decide +kernel) (pa_cons (pv 2) pa_nil)) pe_int) pa_nil))) pa_nil)) (by rfl))
      (pss_cons (ps_par (i := 6) (j := 7) rfl sc.nd rfl rfl (by decide) rfl rfl (pa_cons (pe_call G_law_line (hr.mono (by decide)) rfl T.g_law_line T.F_law_line.kp b_law_line .nil pass0 (pa_cons (pv 0) (pa_cons (pv 4) pa_nil))) (pa_cons (pe_call G_law_line (hr.mono (by decide)) rfl T.g_law_line T.F_law_line.kp b_law_line .nil pass0 (pa_cons (pv 0) (pa_cons (pv 5) pa_nil))) pa_nil)) (by rfl))
      (pss_cons (ps_set (i := 8) sc.nd rfl (Or.inl rfl) (pe_op op_catA (pe_op op_catA (pv 6) (pe_op op_repA (pe_tup (pa_cons pe_int pa_nil)) (pe_op op_mod (pe_ix ix_list (pv 3) pe_int (fun _ _ => rfl)) pe_int))) (pv 7)))
      (pss_cons (ps_if (pt_cmpR op_eq (pe_op op_mod (pe_ix ix_list (pv 3) pe_int (fun _ _ => rfl)) pe_int) pe_int (nomark _))
       (pss_one (ps_set (i := 8) sc.nd rfl (Or.inl rfl) (pe_call G_law_cut (hr.mono (by decide)) rfl T.g_law_cut T.F_law_cut.kp b_law_cut .nil pass0 (pa_cons (pe_lc (own := [("_law_letter_here", 12)]) (g := gName 12) (tt := tYes) rfl sc.nd (pi_tup (pv 6)) (blkOk_by (N := ["_law_machine", "_law_stair", "_law_cell_here", "_law_digits_here", "_law_first", "_law_second", "_law_one", "_law_two", "_law_line_here", "_law_found", "_law_due", "_law_told", "_law_letter_here"]) (sc := defScope s_law_others) (by decide +kernel)) (fun _ _ _ _ _ => pg_name (i := 12) sc.nd rfl (Or.inl rfl)) (fun _ _ _ _ _ => pts_nil) (fun _ _ _ _ _ => (pe_op op_mod (pe_callTy call_int1 (by rfl) T.f_int (by decide +kernel) (pa_cons (pv 12) pa_nil)) (pe_fldK K rfl (pv 0) rfl)))) pa_nil))))
       pss_nil)
      (pss_cons (ps_set (i := 9) sc.nd rfl (Or.inl rfl) (pe_call G_law_floors (hr.mono (by decide)) rfl T.g_law_floors T.F_law_floors.kp b_law_floors .nil pass0 (pa_cons (pe_call G_law_tiles (hr.mono (by decide)) rfl T.g_law_tiles T.F_law_tiles.kp b_law_tiles .nil pass0 (pa_cons (pv 0) pa_nil)) (pa_cons (pv 8) pa_nil))))
      (pss_cons (ps_if (pt_cmpR op_gt (pe_callB call_len_seq (by rfl) T.f_len (by decide +kernel) (pa_cons (pv 9) pa_nil)) pe_int (nomark _))
       (pss_one (ps_ret pe_bl))
       pss_nil)
      (pss_cons (ps_set (i := 10) sc.nd rfl (Or.inl rfl) pe_non)
      (pss_cons (ps_if (pt_cmpR op_eq (pe_callB call_len_seq (by rfl) T.f_len (by decide +kernel) (pa_cons (pv 9) pa_nil)) pe_int (nomark _))
       (pss_one (ps_set (i := 10) sc.nd rfl (Or.inl rfl) (pe_call G_law_cut (hr.mono (by decide)) rfl T.g_law_cut T.F_law_cut.kp b_law_cut .nil pass0 (pa_cons (pe_ix ix_list (pv 9) pe_int (fun _ _ => rfl)) pa_nil))))
       pss_nil)
      (pss_cons (ps_set (i := 11) sc.nd rfl (Or.inl rfl) (pe_meth (pe_fld (pv 1) rfl) T.c_Strip T.m_Strip_stopped G_Strip_stopped (hr.mono (by decide)) b_Strip_stopped .nil pass0 (pa_cons (pv 8) pa_nil)))
      (pss_one (ps_ret (pe_and (pe_cmpR (op_eqD (hq_of hr (by decide))) (pe_meth (pe_fld (pv 1) rfl) T.c_Strip T.m_Strip_step G_Strip_step (hr.mono (by decide)) b_Strip_step .nil pass0 (pa_cons (pv 8) pa_nil)) (pv 10) (nomark _)) (pe_and (pe_callB call_isi (by rfl) T.f_isinstance (by decide +kernel) (pa_cons (pv 11) (pa_cons (pe_bltn (v := .ty "bool") (by rfl) T.f_bool (by decide +kernel) rfl) pa_nil))) (pe_one (pe_cmpR op_eq (pv 11) (pe_cmpR op_isN (pv 10) pe_non (nomark _)) (nomark _))))))))))))))))), ?_⟩
  have hM : M.Ok := hM
  have hperm : ts.Perm M.tiles := hperm
  have hv : pTape K M v H := hv
  have hs : pStair K M ts sv H := hs
  have m2 := hM.m2
  have hA := apart hM hperm
  have htl : ts.length ≤ 1000 := by rw [hperm.length_eq]; exact Nat.le_trans (tiles_len hM) (by decide)
  obtain ⟨uv, zv, hu, hz, hup, hlo⟩ := stair_parts T hs
  refine q_asgP (evp_call (cell, 4, 840) ⟨show (4 : Nat) ≤ 100 by decide, show (0 : Int) < 840 by decide, show (840 : Int) ≤ 1000 by decide⟩ (evps_cons (evp (ev_var rfl)) (evps_cons (evp ev_c) (evps_cons (evp ev_c) evps_nil)))) fun du H1 e1 hdu => ?_
  obtain ⟨ns, hd, hdu⟩ := (show pEx (digs 4 840) (fun ns => pL (ns.map .int)) du H1 from hdu)
  have hn := hd.1
  refine q_par (P1 := pEx (cf5 M) fun c => pD (dCf c)) (P2 := pEx (cf5 M) fun c => pD (dCf c)) (evps_cons (evp_call (M, cell + 1) hM (evps_cons (P := pTape K M) (evp_var rfl (Mo.mo _ _ _ e1 hv)) (evps_cons (evp (ev_I (ev_int1 (ev_var rfl)) ev_c)) evps_nil))) (evps_cons (evp_call (M, cell + 2) hM (evps_cons (P := pTape K M) (evp_var rfl (Mo.mo _ _ _ e1 hv)) (evps_cons (evp (ev_I (ev_int1 (ev_var rfl)) ev_c)) evps_nil))) evps_nil)) fun c1v c2v H2 e2 hc1 hc2 => ?_
  obtain ⟨c1, ⟨hok1, hl1, hr1⟩, hc1⟩ := hc1
  obtain ⟨c2, ⟨hok2, hl2, hr2⟩, hc2⟩ := hc2
  have e12 := e1.trans e2
  refine q_par (P1 := pD (dI (M.line c1))) (P2 := pD (dI (M.line c2))) (evps_cons (evp_call (M, c1) ⟨hM, hok1, by show c1.l.length + c1.r.length ≤ 400; omega⟩ (evps_cons (P := pTape K M) (evp_var rfl (Mo.mo _ _ _ e12 hv)) (evps_cons (P := pD (dCf c1)) (evd_v rfl hc1) evps_nil))) (evps_cons (evp_call (M, c2) ⟨hM, hok2, by show c2.l.length + c2.r.length ≤ 400; omega⟩ (evps_cons (P := pTape K M) (evp_var rfl (Mo.mo _ _ _ e12 hv)) (evps_cons (P := pD (dCf c2)) (evd_v rfl hc2) evps_nil))) evps_nil)) fun l1v l2v H3 e3 hl1v hl2v => ?_
  have hl1v : Is H3 l1v (dI (M.line c1)) := hl1v
  have hl2v : Is H3 l2v (dI (M.line c2)) := hl2v
  have hlen1 := line_len (M := M) c1
  have hlen2 := line_len (M := M) c2
  have e13 := e12.trans e3
  have hdu3 : pL (ns.map .int) du H3 := Mo.mo _ _ _ (e2.trans e3) hdu
  have hk5 : 0 ≤ ns.getD 0 0 % 5 ∧ ns.getD 0 0 % 5 < 5 := ⟨Int.emod_nonneg _ (by omega), Int.emod_lt_of_pos _ (by omega)⟩
  obtain ⟨z5, hz5⟩ : ∃ z5, z5 = (ns.getD 0 0 % 5).toNat := ⟨_, rfl⟩
  have hz5l : z5 ≤ 4 := by omega
  refine q_asgP (P := pD (dI (M.line c1 ++ List.replicate z5 0 ++ M.line c2))) (evd_eq (evd_cat (evd_cat (evd_v rfl hl1v) (evd_rep (d := .int 0) (evd_tup (evds_cons (evd_int ev_c) evds_nil) (by simp)) (ev_mod (ev_intL (j := 0) (evl_v rfl hdu3) ev_c rfl (by rw [hn]; decide)) ev_c (by omega)) hk5.1 (by omega)) ?_) (evd_v rfl hl2v) ?_) ?_) fun lv H4 e4 hlv => ?_
  · rw [List.length_map, List.length_replicate]
    omega
  · rw [List.length_append, List.length_map, List.length_map, List.length_replicate]
    omega
  · rw [← hz5, dI, List.map_append, List.map_append, List.map_replicate]
  have hdu4 : pL (ns.map .int) du H4 := Mo.mo _ _ _ e4 hdu3
  have e14 := e13.trans e4
  refine q_whenAsg (P := pEx (fun l : List Int => l.length ≤ 900) fun l => pD (dI l)) (b := decide (ns.getD 1 0 % 3 = 0)) (et_test (ev_eqI (ev_mod (ev_intL (j := 1) (evl_v rfl hdu4) ev_c rfl (by rw [hn]; decide)) ev_c (by omega)) ev_c)) (fun _ => ?_) (fun _ => ⟨lv, rfl, _, ?_, hlv⟩) fun lv5 H5 e5 hlv5 => ?_
  · have hcomp := evn_lcT (K := K) (σ := [some v, some sv, some (.int cell), some du, some c1v, some c2v, some l1v, some l2v, some lv, none, none, none, none]) (H := H4) (tb := tVar 6) (vs := [12]) (g := gName 12) (t := tYes) (te := tOp (rI (fun _ j => 0 < j) fun i j => .int (i % j)) (tCB (fun xs H Q => (∃ i, xs = [.int i] ∧ Q (.int i) H) ∨ ∃ k, xs = [.bl k] ∧ Q (.int (if k then 1 else 0)) H) (tCons (tVar 12) tNil)) (tFld K (tVar 0) "marks")) (fun _ => true) (mdD M.m) (evd_v rfl (hl1v.m (Tsm.ex e4))) (by rw [List.length_map]; omega) (fun i d x H6 e6 hd hx => by
      rw [List.getElem?_map] at hd
      cases q : (M.line c1)[i]? with
      | none => rw [q] at hd; cases hd
      | some z =>
        rw [q] at hd
        obtain rfl : PyData.int z = d := Option.some.inj hd
        obtain rfl := is_int.mp hx
        exact turn_name (j := 12) rfl et_yes fun _ => evd_int (ev_mod (ev_int1 (ev_var rfl)) (ev_marks T (ev_var rfl) (Mo.mo _ _ _ (e14.trans e6) hv)) (by omega)))
    rw [md_eq] at hcomp
    have hlm : ((M.line c1).map fun z => z % M.m).length ≤ 1000 := by rw [List.length_map]; omega
    refine (evp_call ((M.line c1).map fun z => z % M.m) hlm (evps_cons (P := pS ((M.line c1).map fun z => z % M.m)) (evs_ofL (evp_n hcomp)) evps_nil)).wk fun w H6 e6 p6 => ⟨woe ((M.line c1).map fun z => z % M.m), ?_, p6⟩
    have := woe_len ((M.line c1).map fun z => z % M.m)
    rw [List.length_map] at this
    omega
  · show (M.line c1 ++ List.replicate z5 0 ++ M.line c2).length ≤ 900
    rw [List.length_append, List.length_append, List.length_replicate]
    omega
  obtain ⟨line, hll, hlv5⟩ := hlv5
  have hlv5 : Is H5 lv5 (dI line) := hlv5
  have hll : line.length ≤ 900 := hll
  have e15 := e14.trans e5
  have hOk : stripOk (ts, line) := ⟨hA, htl, hll⟩
  refine q_asgP (evp_callX (c := fun lts : List Tl => lts.Perm M.tiles) (R' := pL ((rowsF ts (fl line) 0).map fun r => dI (r.map (·.n)))) (fun lts => (lts, line)) (evps_X1 (Pa := fun lts => pD (dTs lts)) (evp_call M hM (evps_cons (P := pTape K M) (evp_var rfl (Mo.mo _ _ _ e15 hv)) evps_nil)) (evps_cons (P := pD (dI line)) (evd_v rfl hlv5) evps_nil)) (fun lts hl => ⟨apart hM hl, by show lts.length ≤ 1000; rw [hl.length_eq]; exact Nat.le_trans (tiles_len hM) (by decide), hll⟩) (fun lts w H' hl r => ?_)) fun fv H6 e6 hfv => ?_
  · have h1 := rows_perm (apart hM hl) hA (fun t => (hl.trans hperm.symm).mem_iff) (fl line)
    have r : pL ((rowsF lts (fl line) 0).map fun r => dI (r.map (·.n))) w H' := r
    rw [h1] at r
    exact r
  have hone := rows_le_one hA (fl line)
  have hlv6 := hlv5.m (Tsm.ex e6)
  refine q_when (b := false) (et_test (ev_is (ev_I (ev_lenL (evl_v rfl hfv)) ev_c) (by rw [List.length_map, decide_eq_false (by omega)]))) (fun z => nomatch z) fun _ H7 e7 => ?_
  have hfv7 : pL ((rowsF ts (fl line) 0).map fun r => dI (r.map (·.n))) fv H7 := Mo.mo _ _ _ e7 hfv
  refine q_asg (v := .non) ev_c fun H8 e8 => ?_
  have hfv8 : pL ((rowsF ts (fl line) 0).map fun r => dI (r.map (·.n))) fv H8 := Mo.mo _ _ _ e8 hfv7
  have e18 := ((e15.trans e6).trans e7).trans e8
  have hlv8 := (hlv6.m (Tsm.ex e7)).m (Tsm.ex e8)
  refine q_whenAsg (P := pD (stepD ts line)) (b := decide ((rowsF ts (fl line) 0).length = 1)) (et_test (ev_is (ev_eqI (ev_lenL (evl_v rfl hfv8)) ev_c) (by rw [List.length_map]; congr 1; exact decide_eq_decide.mpr ⟨fun h => by omega, fun h => by omega⟩))) (fun hb => ?_) (fun hb => ⟨.non, rfl, ?_⟩) fun dv H9 e9 hdv => ?_
  · cases hrows : rowsF ts (fl line) 0 with
    | nil => rw [hrows] at hb; exact absurd (of_decide_eq_true hb) (by simp)
    | cons row rest =>
      have hstep : stepD ts line = dI (woe (row.map (·.n))) := by
        unfold stepD stepO
        rw [hrows]
      have hmem : row ∈ rowsF ts (fl line) 0 := by rw [hrows]; simp
      have hlen := isR_len (mem_rowsF.mp hmem)
      have hfl : (fl line).length = line.length + 2 := by unfold fl; simp
      rw [hrows] at hfv8
      rw [hstep]
      exact evd_cutS (evs_of (evd_ixL (evl_v rfl hfv8) ev_c ⟨0, ixN_nat (by simp), rfl⟩)) (by rw [List.length_map]; omega)
  · cases hrows : rowsF ts (fl line) 0 with
    | nil =>
      have hstep : stepD ts line = .none := by
        unfold stepD stepO
        rw [hrows]
      rw [hstep]
      exact .non
    | cons row rest =>
      rw [hrows] at hb hone
      have := of_decide_eq_false hb
      simp at hone this
      exact (this hone).elim
  have hdv : Is H9 dv (stepD ts line) := hdv
  have e19 := e18.trans e9
  have hlv9 := hlv8.m (Tsm.ex e9)
  refine q_asgP (evp_mStrip (ts := ts) (ts, line) hOk (hlo e19 (ev_var rfl)) (Mo.mo _ _ _ e19 hz) (evps_cons (P := pD (dI line)) (evd_v rfl hlv9) evps_nil)) fun tv H10 e10 htv => ?_
  obtain rfl : tv = .bl (stepO ts line).isNone := htv
  have e110 := e19.trans e10
  refine s_retP (P := pB true) (evp (ev_is (ev_andV (ev_eqD (d := stepD ts line) (evp_mStrip (ts := ts) (ts, line) hOk (hlo e110 (ev_var rfl)) (Mo.mo _ _ _ e110 hz) (evps_cons (P := pD (dI line)) (evd_v rfl (hlv9.m (Tsm.ex e10))) evps_nil)) (evd_v rfl (hdv.m (Tsm.ex e10))) (sh_step ts line)) fun _ => ev_andV (ev_isBool (ev_var rfl)) fun _ => ev_op (ev_var rfl) (ev_isNstep (evd_v rfl (hdv.m (Tsm.ex e10)))) (rv_eq rfl)) ?_)) fun w H11 e11 p11 => k w H11 (e110.trans e11) p11
  rw [decide_eq_true rfl]
  rfl
end
end SD
end
section
set_option Elab.async false
set_option linter.all false
set_option maxRecDepth 100000
set_option maxHeartbeats 4000000
namespace SD
open PySem L2 Evl SDR
section
variable {P : Program} {w : World} {K : PySem.W.Frag} {mg : Str → Option Value} {base : Heap}
def rwD (ns : List Int) : PyData → PyData
  | .int k => dRow (some ((ns.getD (k.toNat % 37) 0 + k) % 16, 2 * (ns.getD (k.toNat % 38) 0 / 16 % 2) - 1, (ns.getD (k.toNat % 36) 0 / 3 + k) % 20))
  | d => d
def rws (ns : List Int) : List Row := (List.range 319).map fun k : Nat => some ((ns.getD (k % 37) 0 + k) % 16, 2 * (ns.getD (k % 38) 0 / 16 % 2) - 1, (ns.getD (k % 36) 0 / 3 + k) % 20)
theorem rw_eq (ns : List Int) : ((upto 319).filter fun _ => true).map (rwD ns) = (rws ns).map dRow := by
  unfold upto rws
  rw [List.filter_eq_self.mpr (fun _ _ => rfl), List.map_map, List.map_map]
  rfl
theorem rws_ok (ns : List Int) : (⟨16, 20, rws ns ++ [none]⟩ : Mach).Ok := by
  refine ⟨by show (2 : Int) ≤ 16; omega, by show (16 : Int) ≤ 16; omega, by show (1 : Int) ≤ 20; omega, by show (20 : Int) ≤ 20; omega, ?_, fun r hr => ?_⟩
  · show (((rws ns ++ [none]).length : Nat) : Int) = 16 * 20
    unfold rws
    rw [List.length_append, List.length_map, List.length_range]
    rfl
  · rcases List.mem_append.mp hr with hr | hr
    · unfold rws at hr
      obtain ⟨k, _, rfl⟩ := List.mem_map.mp hr
      intro w' v' q' h'
      injection h' with h'
      injection h' with h1 h2
      injection h2 with h2 h3
      rw [← h1, ← h2, ← h3]
      have p1 := Int.emod_nonneg (ns.getD (k % 38) 0 / 16) (show (2 : Int) ≠ 0 by omega)
      have p2 := Int.emod_lt_of_pos (ns.getD (k % 38) 0 / 16) (show (0 : Int) < 2 by omega)
      exact ⟨Int.emod_nonneg _ (by omega), Int.emod_lt_of_pos _ (by show (0 : Int) < 16; omega), by omega, Int.emod_nonneg _ (by omega), Int.emod_lt_of_pos _ (by show (0 : Int) < 20; omega)⟩
    · obtain rfl := List.mem_singleton.mp hr
      intro w' v' q' h'
      cases h'
theorem two_ok : (⟨2, 1, [some (1, 1, 0), some (0, 1, 0)]⟩ : Mach).Ok := by
  refine ⟨by show (2 : Int) ≤ 2; omega, by show (2 : Int) ≤ 16; omega, by show (1 : Int) ≤ 1; omega, by show (1 : Int) ≤ 20; omega, rfl, fun r hr => ?_⟩
  rcases List.mem_cons.mp hr with rfl | hr
  · intro w' v' q' h'
    injection h' with h'
    injection h' with h1 h2
    injection h2 with h2 h3
    rw [← h1, ← h2, ← h3]
    exact ⟨by omega, by show (1 : Int) < 2; omega, .inl rfl, by omega, by show (0 : Int) < 1; omega⟩
  · obtain rfl := List.mem_singleton.mp hr
    intro w' v' q' h'
    injection h' with h'
    injection h' with h1 h2
    injection h2 with h2 h3
    rw [← h1, ← h2, ← h3]
    exact ⟨by omega, by show (0 : Int) < 2; omega, .inl rfl, by omega, by show (0 : Int) < 1; omega⟩
theorem next_row {M : Mach} {a b : Cf} (h : M.next a = some b) : (M.row a.q a.a).isNone = false := by
  unfold Mach.next at h
  cases e : M.row a.q a.a with
  | none => rw [e] at h; cases h
  | some r => rfl
theorem next_none {M : Mach} {a : Cf} (h : M.next a = none) : (M.row a.q a.a).isNone = true := by
  unfold Mach.next at h
  cases e : M.row a.q a.a with
  | none => rfl
  | some r =>
    obtain ⟨w, v, q⟩ := r
    rw [e] at h
    by_cases hv : v = 1
    · have h' : (if v = 1 then some (⟨q, trim (w :: a.l), a.r.headD 0, a.r.tail⟩ : Cf) else some ⟨q, a.l.tail, a.l.headD 0, trim (w :: a.r)⟩) = none := h
      rw [if_pos hv] at h'
      cases h'
    · have h' : (if v = 1 then some (⟨q, trim (w :: a.l), a.r.headD 0, a.r.tail⟩ : Cf) else some ⟨q, a.l.tail, a.l.headD 0, trim (w :: a.r)⟩) = none := h
      rw [if_neg hv] at h'
      cases h'
theorem ev_isnotB {σ : L2.St} {H : Hp} {ta tb : TE} {a b : Bool} (ha : Ev ta σ H (.bl a)) (hb : Ev tb σ H (.bl b)) : Ev (tOp (fun x y H Q => ∃ a b, x = .bl a ∧ y = .bl b ∧ Q (.bl (!decide (a = b))) H) ta tb) σ H (.bl (!decide (a = b))) := ev_op ha hb fun H1 _ _ q => ⟨a, b, rfl, rfl, q H1 (Ex.refl H1)⟩
theorem ev_notNstep {σ : L2.St} {H : Hp} {ta : TE} {ts : List Tl} {line : List Int} (ha : EvD ta σ H (stepD ts line)) : Ev (tOp (fun x y H Q => y = .non ∧ Q (.bl (!decide (x = .non))) H) ta (tC .non)) σ H (.bl (!(stepO ts line).isNone)) := by
  unfold stepD at ha
  cases hs : stepO ts line with
  | none => rw [hs] at ha; exact ev_notN0 ha
  | some l => rw [hs] at ha; exact ev_notN ha
theorem evp_meth0E (T : Txt K mg) {σ : L2.St} {H : Hp} {ta tb : TE} {E : XK} {M : Mach} {ts : List Tl} {v : V} {d : PyData} (h : pStair K M ts v H) (ha : Ev ta σ H v) (hb : EvD tb σ H d) : EvP (tMeth (cStair K) "ending" sp_TileStair_ending [] E ta (tCons tb tNil)) σ H (pI 0) := by
  obtain ⟨p, dx, u, z, rfl, h1, h2⟩ := h
  exact evp_meth (P0 := pAny) (Ps := [pAny]) () trivial rfl ha h1 (f2_no _ _ (by decide +kernel) (by decide +kernel)) trivial (evps_cons (hb.wk fun _ _ _ _ => trivial) evps_nil)
-- law: slots 0:_law_script 1:_law_number 2:_law_machine 3:_law_steps_here 4:_law_numbers 5:_law_k 6:_law_rows 7:_law_stair 8:_law_upper 9:_law_line_here 10:_law_begin 11:_law_run 12:_law_found; level 7; callees Strip.run, Strip.step, Strip.stopped, Tape.__init__, TileStair.__init__, TileStair.down, TileStair.ending, TileStair.pace, TileStair.up, _law_cell, _law_configuration, _law_digits, _law_line, _law_others, _law_steps, _law_tape
theorem sc_law : FnScope ["_law_script", "_law_number", "_law_machine", "_law_steps_here", "_law_numbers", "_law_k", "_law_rows", "_law_stair", "_law_upper", "_law_line_here", "_law_begin", "_law_run", "_law_found"] ["_law_script"] (defScope s_law) := ⟨rfl, rfl, rfl, by decide +kernel, rfl, by decide +kernel, by decide +kernel⟩
theorem ok_law (T : Txt K mg) : FnOk P w K mg base CX0 7 (He.fAd K ("law", none)) T.fd_law ["_law_script"] (sp_law K) := by
  have G_Strip_run := ok_Strip_run (P := P) (w := w) (base := base) T
  have b_Strip_run : Binds K T.fd_Strip_run ["self", "configuration", "steps"] [] := T.F_Strip_run.bindsN fun _ _ _ _ _ _ us hl => match us, hl with | [_, _, _], _ => rfl
  have G_Strip_step := ok_Strip_step (P := P) (w := w) (base := base) T
  have b_Strip_step : Binds K T.fd_Strip_step ["self", "configuration"] [] := T.F_Strip_step.bindsN fun _ _ _ _ _ _ us hl => match us, hl with | [_, _], _ => rfl
  have G_Strip_stopped := ok_Strip_stopped (P := P) (w := w) (base := base) T
  have b_Strip_stopped : Binds K T.fd_Strip_stopped ["self", "configuration"] [] := T.F_Strip_stopped.bindsN fun _ _ _ _ _ _ us hl => match us, hl with | [_, _], _ => rfl
  have G_Tape_init := ok_Tape_init (P := P) (w := w) (base := base) T
  have b_Tape_init : Binds K T.fd_Tape_init ["self", "marks", "states", "rows"] [] := T.F_Tape_init.bindsN fun _ _ _ _ _ _ us hl => match us, hl with | [_, _, _, _], _ => rfl
  have G_TileStair_init := ok_TileStair_init (P := P) (w := w) (base := base) T
  have b_TileStair_init : Binds K T.fd_TileStair_init ["self", "machine"] [] := T.F_TileStair_init.bindsN fun _ _ _ _ _ _ us hl => match us, hl with | [_, _], _ => rfl
  have G_TileStair_down := ok_TileStair_down (P := P) (w := w) (base := base) T
  have b_TileStair_down : Binds K T.fd_TileStair_down ["self", "configuration"] [] := T.F_TileStair_down.bindsN fun _ _ _ _ _ _ us hl => match us, hl with | [_, _], _ => rfl
  have G_TileStair_ending := ok_TileStair_ending (P := P) (w := w) (base := base) T
  have b_TileStair_ending : Binds K T.fd_TileStair_ending ["self", "configuration"] [] := T.F_TileStair_ending.bindsN fun _ _ _ _ _ _ us hl => match us, hl with | [_, _], _ => rfl
  have G_TileStair_pace := ok_TileStair_pace (P := P) (w := w) (base := base) T
  have b_TileStair_pace : Binds K T.fd_TileStair_pace ["self", "configuration"] [] := T.F_TileStair_pace.bindsN fun _ _ _ _ _ _ us hl => match us, hl with | [_, _], _ => rfl
  have G_TileStair_up := ok_TileStair_up (P := P) (w := w) (base := base) T
  have b_TileStair_up : Binds K T.fd_TileStair_up ["self", "configuration"] [] := T.F_TileStair_up.bindsN fun _ _ _ _ _ _ us hl => match us, hl with | [_, _], _ => rfl
  have G_law_cell := ok_law_cell (P := P) (w := w) (base := base) T
  have b_law_cell : Binds K T.fd_law_cell ["_law_script", "_law_k"] [] := T.F_law_cell.bindsN fun _ _ _ _ _ _ us hl => match us, hl with | [_, _], _ => rfl
  have G_law_configuration := ok_law_configuration (P := P) (w := w) (base := base) T
  have b_law_configuration : Binds K T.fd_law_configuration ["_law_machine", "_law_cell_here"] [] := T.F_law_configuration.bindsN fun _ _ _ _ _ _ us hl => match us, hl with | [_, _], _ => rfl
  have G_law_digits := ok_law_digits (P := P) (w := w) (base := base) T
  have b_law_digits : Binds K T.fd_law_digits ["_law_cell_here", "_law_count", "_law_many"] [] := T.F_law_digits.bindsN fun _ _ _ _ _ _ us hl => match us, hl with | [_, _, _], _ => rfl
  have G_law_line := ok_law_line (P := P) (w := w) (base := base) T
  have b_law_line : Binds K T.fd_law_line ["_law_machine", "_law_configuration_here"] [] := T.F_law_line.bindsN fun _ _ _ _ _ _ us hl => match us, hl with | [_, _], _ => rfl
  have G_law_others := ok_law_others (P := P) (w := w) (base := base) T
  have b_law_others : Binds K T.fd_law_others ["_law_machine", "_law_stair", "_law_cell_here"] [] := T.F_law_others.bindsN fun _ _ _ _ _ _ us hl => match us, hl with | [_, _, _], _ => rfl
  have G_law_steps := ok_law_steps (P := P) (w := w) (base := base) T
  have b_law_steps : Binds K T.fd_law_steps ["_law_machine", "_law_configuration_here", "_law_steps_here"] [] := T.F_law_steps.bindsN fun _ _ _ _ _ _ us hl => match us, hl with | [_, _, _], _ => rfl
  have G_law_tape := ok_law_tape (P := P) (w := w) (base := base) T
  have b_law_tape : Binds K T.fd_law_tape ["_law_numbers", "_law_most_marks", "_law_most_states"] [] := T.F_law_tape.bindsN fun _ _ _ _ _ _ us hl => match us, hl with | [_, _, _], _ => rfl
  have sc := sc_law
  refine T.F_law.ok sc_law (fun vs H Q E h => ?_) (fun cdv A outer s H vs Q E hr h => ?_)
  · unfold sp_law at h
    obtain ⟨i, _, p, _⟩ := h
    exact p.len
  obtain ⟨ns, hlen, p, k⟩ := h
  obtain ⟨sv, rfl, hsv⟩ := pl1 p
  refine ⟨_, PSs.nox (pss_cons (ps_set (i := 1) sc.nd rfl (Or.inl rfl) (pe_op op_mod (pe_callTy call_int1 (by rfl) T.f_int (by decide +kernel) (pa_cons (pe_call G_law_cell (hr.mono (by decide)) rfl T.g_law_cell T.F_law_cell.kp b_law_cell .nil pass0 (pa_cons (pv 0) (pa_cons pe_int pa_nil))) pa_nil)) pe_int))
      (pss_cons (ps_set (i := 2) sc.nd rfl (Or.inl rfl) (pe_call G_law_tape (hr.mono (by decide)) rfl T.g_law_tape T.F_law_tape.kp b_law_tape .nil pass0 (pa_cons (pe_call G_law_digits (hr.mono (by decide)) rfl T.g_law_digits T.F_law_digits.kp b_law_digits .nil pass0 (pa_cons (pe_call G_law_cell (hr.mono (by decide)) rfl T.g_law_cell T.F_law_cell.kp b_law_cell .nil pass0 (pa_cons (pv 0) (pa_cons pe_int pa_nil))) (pa_cons pe_int (pa_cons pe_int pa_nil)))) (pa_cons pe_int (pa_cons pe_int pa_nil)))))
      (pss_cons (ps_set (i := 3) sc.nd rfl (Or.inl rfl) (pe_op op_add pe_int (pe_op op_mod (pv 1) pe_int)))
      (pss_cons (ps_if (pt_cmpR op_eq (pe_op op_mod (pe_op op_fdiv (pv 1) pe_int) pe_int) pe_int (nomark _))
       (pss_cons (ps_set (i := 4) sc.nd rfl (Or.inr rfl) (pe_call G_law_digits (hr.mono (by decide)) rfl T.g_law_digits T.F_law_digits.kp b_law_digits .nil pass0 (pa_cons (pe_call G_law_cell (hr.mono (by decide)) rfl T.g_law_cell T.F_law_cell.kp b_law_cell .nil pass0 (pa_cons (pv 0) (pa_cons pe_int pa_nil))) (pa_cons pe_int (pa_cons pe_int pa_nil)))))
        (pss_cons (ps_setLc (i := 6) (own := [("_law_k", 5)]) (g := gName 5) (tt := tYes) rfl sc.nd rfl rfl (sw_true rfl rfl rfl (by decide +kernel)) (pi_range1 rfl T.f_range (pa_cons pe_int pa_nil)) (blkOk_by (N := ["_law_script", "_law_number", "_law_machine", "_law_steps_here", "_law_numbers", "_law_k", "_law_rows", "_law_stair", "_law_upper", "_law_line_here", "_law_begin", "_law_run", "_law_found"]) (sc := defScope s_law) (by decide +kernel)) (fun _ _ _ _ _ => pg_name (i := 5) sc.nd rfl (Or.inl rfl)) (fun _ _ _ _ _ => pts_nil) (fun _ _ _ _ _ => (pe_tup (pa_cons (pe_op op_mod (pe_callTy call_int1 (by rfl) T.f_int (by decide +kernel) (pa_cons (pe_op op_add (pe_ix (ix_listK K rfl) (pv 4) (pe_op op_mod (pe_callTy call_int1 (by rfl) T.f_int (by decide +kernel) (pa_cons (pv 5) pa_nil)) pe_int) (fun _ _ => rfl)) (pv 5)) pa_nil)) pe_int) (pa_cons (pe_op op_sub (pe_op op_mul pe_int (pe_op op_mod (pe_op op_fdiv (pe_ix (ix_listK K rfl) (pv 4) (pe_op op_mod (pe_callTy call_int1 (by rfl) T.f_int (by decide +kernel) (pa_cons (pv 5) pa_nil)) pe_int) (fun _ _ => rfl)) pe_int) pe_int)) pe_int) (pa_cons (pe_op op_mod (pe_callTy call_int1 (by rfl) T.f_int (by decide +kernel) (pa_cons (pe_op op_add (pe_op op_fdiv (pe_ix (ix_listK K rfl) (pv 4) (pe_op op_mod (pe_callTy call_int1 (by rfl) T.f_int (by decide +kernel) (pa_cons (pv 5) pa_nil)) pe_int) (fun _ _ => rfl)) pe_int) (pv 5)) pa_nil)) pe_int) pa_nil))))))
        (pss_one (ps_set (i := 2) sc.nd rfl (Or.inl rfl) (pe_make T.k_Tape G_Tape_init (hr.mono (by decide)) rfl T.g_Tape b_Tape_init .nil pass0 (pa_cons pe_int (pa_cons pe_int (pa_cons (pe_op op_cat (pv 6) (pe_lst (pa_cons pe_non pa_nil))) pa_nil))))))))
       pss_nil)
      (pss_cons (ps_if (pt_cmpR op_eq (pe_op op_mod (pe_op op_fdiv (pv 1) pe_int) pe_int) pe_int (nomark _))
       (pss_one (ps_par (i := 2) (j := 3) rfl sc.nd rfl rfl (by decide) rfl rfl (pa_cons (pe_make T.k_Tape G_Tape_init (hr.mono (by decide)) rfl T.g_Tape b_Tape_init .nil pass0 (pa_cons pe_int (pa_cons pe_int (pa_cons (pe_lst (pa_cons (pe_tup (pa_cons pe_int (pa_cons pe_int (pa_cons pe_int pa_nil)))) (pa_cons (pe_tup (pa_cons pe_int (pa_cons pe_int (pa_cons pe_int pa_nil)))) pa_nil))) pa_nil)))) (pa_cons pe_int pa_nil)) (by rfl)))
       pss_nil)
      (pss_cons (ps_set (i := 7) sc.nd rfl (Or.inl rfl) (pe_make T.k_TileStair G_TileStair_init (hr.mono (by decide)) rfl T.g_TileStair b_TileStair_init .nil pass0 (pa_cons (pv 2) pa_nil)))
      (pss_cons (ps_set (i := 8) sc.nd rfl (Or.inl rfl) (pe_call G_law_configuration (hr.mono (by decide)) rfl T.g_law_configuration T.F_law_configuration.kp b_law_configuration .nil pass0 (pa_cons (pv 2) (pa_cons (pe_call G_law_cell (hr.mono (by decide)) rfl T.g_law_cell T.F_law_cell.kp b_law_cell .nil pass0 (pa_cons (pv 0) (pa_cons pe_int pa_nil))) pa_nil))))
      (pss_cons (ps_par (i := 9) (j := 10) rfl sc.nd rfl rfl (by decide) rfl rfl (pa_cons (pe_meth (pv 7) T.c_TileStair T.m_TileStair_down G_TileStair_down (hr.mono (by decide)) b_TileStair_down .nil pass0 (pa_cons (pv 8) pa_nil)) (pa_cons (pe_meth (pv 7) T.c_TileStair T.m_TileStair_down G_TileStair_down (hr.mono (by decide)) b_TileStair_down .nil pass0 (pa_cons (pv 8) pa_nil)) pa_nil)) (by rfl))
      (pss_cons (ps_set (i := 11) sc.nd rfl (Or.inl rfl) (pe_call G_law_steps (hr.mono (by decide)) rfl T.g_law_steps T.F_law_steps.kp b_law_steps .nil pass0 (pa_cons (pv 2) (pa_cons (pv 8) (pa_cons (pv 3) pa_nil)))))
      (pss_cons (ps_for PassesOwn.never rfl (pi_range1 rfl T.f_range (pa_cons (pe_op op_sub (pe_callB call_len_seq (by rfl) T.f_len (by decide +kernel) (pa_cons (pv 11) pa_nil)) pe_int) pa_nil)) (pg_name (i := 5) sc.nd rfl (Or.inl rfl))
       (pss_cons (ps_set (i := 12) sc.nd rfl (Or.inl rfl) (pe_meth (pe_fld (pv 7) rfl) T.c_Strip T.m_Strip_step G_Strip_step (hr.mono (by decide)) b_Strip_step .nil pass0 (pa_cons (pv 9) pa_nil)))
        (pss_cons (ps_if (PW.pt (pw_or (pt_cmpR op_isN (pv 12) pe_non (nomark _)) (pw_or (pt_cmpR (op_neD (hq_of hr (by decide))) (pv 12) (pe_call G_law_line (hr.mono (by decide)) rfl T.g_law_line T.F_law_line.kp b_law_line .nil pass0 (pa_cons (pv 2) (pa_cons (pe_ix ix_list (pv 11) (pe_op op_add (pv 5) pe_int) (fun _ _ => rfl)) pa_nil))) (nomark _)) (pw_or (pt_cmpR (op_neD (hq_of hr (by decide))) (pe_meth (pv 7) T.c_TileStair T.m_TileStair_up G_TileStair_up (hr.mono (by decide)) b_TileStair_up .nil pass0 (pa_cons (pv 12) pa_nil)) (pe_ix ix_list (pv 11) (pe_op op_add (pv 5) pe_int) (fun _ _ => rfl)) (nomark _)) (pw_or1 (pt_cmpR op_ne (pe_meth (pv 7) T.c_TileStair T.m_TileStair_pace G_TileStair_pace (hr.mono (by decide)) b_TileStair_pace .nil pass0 (pa_cons (pe_ix ix_list (pv 11) (pv 5) (fun _ _ => rfl)) pa_nil)) pe_int (nomark _)))))))
         (pss_one (ps_ret pe_bl))
         pss_nil)
        (pss_one (ps_set (i := 9) sc.nd rfl (Or.inl rfl) (pv 12))))))
      (pss_cons (ps_if (PW.pt (pw_and (pt_cmpR op_le (pe_callB call_len_seq (by rfl) T.f_len (by decide +kernel) (pa_cons (pv 11) pa_nil)) (pv 3) (nomark _)) (pw_and1 (PW.pt (pw_or (pt_cmpR op_notN (pe_meth (pe_fld (pv 7) rfl) T.c_Strip T.m_Strip_step G_Strip_step (hr.mono (by decide)) b_Strip_step .nil pass0 (pa_cons (pv 9) pa_nil)) pe_non (nomark _)) (pw_or (pt_cmpR op_isnot_bl (pe_meth (pe_fld (pv 7) rfl) T.c_Strip T.m_Strip_stopped G_Strip_stopped (hr.mono (by decide)) b_Strip_stopped .nil pass0 (pa_cons (pv 9) pa_nil)) pe_bl (nomark _)) (pw_or1 (pt_cmpR op_ne (pe_meth (pv 7) T.c_TileStair T.m_TileStair_pace G_TileStair_pace (hr.mono (by decide)) b_TileStair_pace .nil pass0 (pa_cons (pe_ix ix_list (pv 11) (pe_un un_neg pe_int) (fun _ _ => rfl)) pa_nil)) pe_int (nomark _)))))))))
       (pss_one (ps_ret pe_bl))
       pss_nil)
      (pss_cons (ps_if (PW.pt (pw_or (pt_cmpR (op_neD (hq_of hr (by decide))) (pe_meth (pe_fld (pv 7) rfl) T.c_Strip T.m_Strip_run G_Strip_run (hr.mono (by decide)) b_Strip_run .nil pass0 (pa_cons (pv 10) (pa_cons (pv 3) pa_nil))) (pe_tup (pa_cons (pv 9) (pa_cons (pe_op op_sub (pe_callB call_len_seq (by rfl) T.f_len (by decide +kernel) (pa_cons (pv 11) pa_nil)) pe_int) pa_nil))) (nomark _)) (pw_or1 (pt_cmpR op_ne (pe_meth (pv 7) T.c_TileStair T.m_TileStair_ending G_TileStair_ending (hr.mono (by decide)) b_TileStair_ending .nil pass0 (pa_cons (pe_ix ix_list (pv 11) (pe_un un_neg pe_int) (fun _ _ => rfl)) pa_nil)) pe_int (nomark _)))))
       (pss_one (ps_ret pe_bl))
       pss_nil)
      (pss_one (ps_ret (pe_call G_law_others (hr.mono (by decide)) rfl T.g_law_others T.F_law_others.kp b_law_others .nil pass0 (pa_cons (pv 2) (pa_cons (pv 7) (pa_cons (pe_call G_law_cell (hr.mono (by decide)) rfl T.g_law_cell T.F_law_cell.kp b_law_cell .nil pass0 (pa_cons (pv 0) (pa_cons pe_int pa_nil))) pa_nil)))))))))))))))))), ?_⟩
  have hsv : pScr K ns sv H := hsv
  refine q_asgP (P := pRng 90000) (evp_modAI (evp_intAI (evp_cell (ns := ns) (by omega) (ev_var rfl) hsv ev_c)) ev_c (by omega)) fun nv H1 e1 hnv => ?_
  obtain ⟨num, rfl, hn0, hn1⟩ := hnv
  have hsv1 : pScr K ns sv H1 := Mo.mo _ _ _ e1 hsv
  -- the digits of the first cell
  have hdig : ∀ {σ : L2.St} {H' : Hp} {E : XK} {E' : XK}, σ[0]? = some (some sv) → Ex H H' → EvP (tCall sp_law_digits [] E (tCons (tCall (sp_law_cell K) [] E' (tCons (tVar 0) (tCons (tC (.int 0)) tNil))) (tCons (tC (.int 38)) (tCons (tC (.int 840)) tNil)))) σ H' (pEx (digs 38 840) fun ds => pL (ds.map .int)) := fun {σ H' E E'} h0 e =>
    evp_callX (c := fun _ : Int => True) (fun z => (z, 38, 840)) (evps_X1 (evp_xAI (evp_cell (ns := ns) (by omega) (ev_var h0) (Mo.mo _ _ _ e hsv) ev_c)) (evps_cons (evp ev_c) (evps_cons (evp ev_c) evps_nil))) (fun z _ => ⟨show (38 : Nat) ≤ 100 by decide, show (0 : Int) < 840 by decide, show (840 : Int) ≤ 1000 by decide⟩) fun z v H _ r => r
  refine q_asgP (P := pEx (fun M => M.Ok) fun M => pTape K M) (evp_callX (c := digs 38 840) id (evps_X1 (hdig rfl e1) (evps_cons (evp ev_c) (evps_cons (evp ev_c) evps_nil))) (fun ds h => h) fun ds v H _ r => r) fun mv0 H2 e2 hmv0 => ?_
  obtain ⟨M0, hM0, hmv0⟩ := hmv0
  refine q_asgI (ev_I ev_c (ev_mod (ev_var rfl) ev_c (by omega))) fun H3 e3 => ?_
  obtain ⟨st0, hst0⟩ : ∃ st0 : Nat, 1 + num % 10 = (st0 : Int) ∧ st0 ≤ 90 := ⟨(1 + num % 10).toNat, by have := Int.emod_nonneg num (show (10 : Int) ≠ 0 by omega); have := Int.emod_lt_of_pos num (show (0 : Int) < 10 by omega); omega⟩
  rw [hst0.1]
  have e13 := (e1.trans e2).trans e3
  refine q_whenJ (b := decide (num / 10 % 10 = 1)) (fun σ' H' => Ex H H' ∧ ∃ (M : Mach) (mv : V) (z4 z6 : Option V), M.Ok ∧ pTape K M mv H' ∧ σ' = [some sv, some (.int num), some mv, some (.int (st0 : Int)), z4, none, z6, none, none, none, none, none, none]) (et_test (ev_eqI (ev_mod (ev_div (ev_var rfl) ev_c (by omega)) ev_c (by omega)) ev_c)) (fun _ H4 e4 N hN => ?_) (fun _ H4 e4 => ⟨e13.trans e4, M0, mv0, none, none, hM0, Mo.mo _ _ _ (e3.trans e4) hmv0, rfl⟩) fun σ' H' ⟨e4, M1, mv1, z4, z6, hM1, hmv1, es⟩ => ?_
  · refine q_asgP (hdig rfl (e13.trans e4)) fun dv H5 e5 hdv => ?_
    obtain ⟨ds, hd, hdv⟩ := hdv
    have hn := hd.1
    have hix : ∀ {σ : L2.St} {H' : Hp} (m i : Nat), 0 < m → m ≤ 38 → σ[4]? = some (some dv) → σ[5]? = some (some (.int (i : Int))) → Ex H5 H' → Ev (tOp (rIxL K) (tVar 4) (tOp (rI (fun _ j => 0 < j) fun i j => .int (i % j)) (tCB (fun xs H Q => (∃ i, xs = [.int i] ∧ Q (.int i) H) ∨ ∃ k, xs = [.bl k] ∧ Q (.int (if k then 1 else 0)) H) (tCons (tVar 5) tNil)) (tC (.int (m : Int))))) σ H' (.int (ds.getD (i % m) 0)) := fun {σ H'} m i hm0 hm h4 h5 e =>
      ev_intL (j := i % m) (evl_v h4 (Mo.mo _ _ _ e hdv)) (ev_mod (ev_int1 (ev_var h5)) ev_c (by omega)) (Int.natCast_emod i m).symm (by rw [hn]; exact Nat.lt_of_lt_of_le (Nat.mod_lt _ hm0) hm)
    refine q_asgN (evn_lcR (n := 319) (fun _ => true) (rwD ds) (ea_cons ev_c ea_nil) (by omega) (by omega) fun i H6 e6 hi => turn_name (j := 5) rfl et_yes fun _ => evd_tup (evds_cons (evd_int (ev_mod (ev_int1 (ev_I (hix 37 i (by decide) (by decide) rfl rfl e6) (ev_var rfl))) ev_c (by omega))) (evds_cons (evd_int (ev_I (ev_mul ev_c (ev_mod (ev_div (hix 38 i (by decide) (by decide) rfl rfl e6) ev_c (by omega)) ev_c (by omega)) (cm_l (by omega))) ev_c)) (evds_cons (evd_int (ev_mod (ev_int1 (ev_I (ev_div (hix 36 i (by decide) (by decide) rfl rfl e6) ev_c (by omega)) (ev_var rfl))) ev_c (by omega))) evds_nil))) (by simp)) fun rn rxs H6 hrn e6 hrl hrx => ?_
    have hrx : Iss H6 rxs ((rws ds).map dRow) := by rw [← rw_eq]; exact hrx
    have hrl319 : ((rws ds).map dRow).length = 319 := by unfold rws; rw [List.length_map, List.length_map, List.length_range]
    have hcat := evn_cat (H := H6) (σ := [some sv, some (.int num), some mv0, some (.int (st0 : Int)), some dv, none, some (.ref rn), none, none, none, none, none, none]) (ta := tVar 6) (tb := tLst (tCons (tC .non) tNil)) (es := [.none]) (evl_v rfl ⟨rn, rxs, rfl, hrl, hrx⟩) (evp_n (evn_lst (evds_cons (evp_is ev_c .non) evds_nil) (by simp))) (by rw [hrl319]; decide)
    have hcat2 : (rws ds).map dRow ++ [.none] = (rws ds ++ [none]).map dRow := by rw [List.map_append]; rfl
    rw [hcat2] at hcat
    refine s_asgP (P := pTape K ⟨16, 20, rws ds ++ [none]⟩) (evp_make (⟨16, 20, rws ds ++ [none]⟩ : Mach) (rws_ok ds) (evps_cons (evp ev_c) (evps_cons (evp ev_c) (evps_cons (P := pL ((rws ds ++ [none]).map dRow)) (evp_n hcat) evps_nil)))) fun w H7 e7 p7 => hN _ _ ⟨(((e13.trans e4).trans e5).trans e6).trans e7, _, w, _, _, rws_ok ds, p7, rfl⟩
  subst es
  refine q_whenJ (b := decide (num / 100 % 20 = 1)) (fun σ2 H2' => Ex H H2' ∧ ∃ (M : Mach) (mv : V) (n : Nat), n ≤ 90 ∧ M.Ok ∧ pTape K M mv H2' ∧ σ2 = [some sv, some (.int num), some mv, some (.int (n : Int)), z4, none, z6, none, none, none, none, none, none]) (et_test (ev_eqI (ev_mod (ev_div (ev_var rfl) ev_c (by omega)) ev_c (by omega)) ev_c)) (fun _ H5 e5 N hN => ?_) (fun _ H5 e5 => ⟨e4.trans e5, M1, mv1, st0, hst0.2, hM1, Mo.mo _ _ _ e5 hmv1, rfl⟩) fun σ2 H5 ⟨e5, M, mv, n, hn90, hM, hmv, es⟩ => ?_
  · refine s_par (P1 := pTape K ⟨2, 1, [some (1, 1, 0), some (0, 1, 0)]⟩) (P2 := pI 90) (evps_cons (evp_make (⟨2, 1, [some (1, 1, 0), some (0, 1, 0)]⟩ : Mach) two_ok (evps_cons (evp ev_c) (evps_cons (evp ev_c) (evps_cons (P := pL ([some (1, 1, 0), some (0, 1, 0)].map dRow)) (evp_n (evn_lst (evds_cons (evd_tup (evds_cons (evd_int ev_c) (evds_cons (evd_int ev_c) (evds_cons (evd_int ev_c) evds_nil))) (by simp)) (evds_cons (evd_tup (evds_cons (evd_int ev_c) (evds_cons (evd_int ev_c) (evds_cons (evd_int ev_c) evds_nil))) (by simp)) evds_nil)) (by simp))) evps_nil)))) (evps_cons (evp ev_c) evps_nil)) fun w u H6 e6 pw pu => ?_
    obtain rfl : u = .int 90 := pu
    exact hN _ _ ⟨(e4.trans e5).trans e6, _, w, 90, Nat.le_refl _, two_ok, pw, rfl⟩
  subst es
  refine q_asgP (P := pEx (fun ts : List Tl => ts.Perm M.tiles) fun ts => pStair K M ts) (evp_make M hM (evps_cons (P := pTape K M) (evp_var rfl hmv) evps_nil)) fun stv H6 e6 hst => ?_
  obtain ⟨ts, hperm, hst⟩ := hst
  have hA := apart hM hperm
  have htl : ts.length ≤ 1000 := by rw [hperm.length_eq]; exact Nat.le_trans (tiles_len hM) (by decide)
  obtain ⟨uv, zv, hu, hz, hup, hlo⟩ := stair_parts T hst
  have e06 := e5.trans e6
  refine q_asgP (P := pEx (cf5 M) fun c => pD (dCf c)) (evp_callX (c := fun _ : Int => True) (fun z => (M, z)) (evps_XS (P := pTape K M) (Ps := fun z : Int => [pI z]) (evp_var rfl (Mo.mo _ _ _ e6 hmv)) (evps_X1 (evp_xAI (evp_cell (ns := ns) (by omega) (ev_var rfl) (Mo.mo _ _ _ e06 hsv) ev_c)) evps_nil)) (fun z _ => hM) fun z v H _ r => r) fun cv H7 e7 hcv => ?_
  obtain ⟨c, ⟨hok, hcl, hcr⟩, hcv⟩ := hcv
  have hcv : Is H7 cv (dCf c) := hcv
  have hst7 : pStair K M ts stv H7 := Mo.mo _ _ _ e7 hst
  have hc400 : c.l.length + c.r.length ≤ 400 := by omega
  have hstairOk : stairOk (M, ts, c) := ⟨hM, hok, hc400⟩
  refine q_par (P1 := pD (dI (M.line c))) (P2 := pD (dI (M.line c))) (evps_cons (evp_mStair (M := M) (ts := ts) (M, ts, c) hstairOk (ev_var rfl) hst7 (evps_cons (P := pD (dCf c)) (evd_v rfl hcv) evps_nil)) (evps_cons (evp_mStair (M := M) (ts := ts) (M, ts, c) hstairOk (ev_var rfl) hst7 (evps_cons (P := pD (dCf c)) (evd_v rfl hcv) evps_nil)) evps_nil)) fun lv0 bv H8 e8 hlv0 hbv => ?_
  have hlv0 : Is H8 lv0 (dI (M.line c)) := hlv0
  have hbv : Is H8 bv (dI (M.line c)) := hbv
  have e08 := (e06.trans e7).trans e8
  refine q_asgP (evp_call (M, c, n) ⟨⟨hM, hok, hc400⟩, by show c.l.length + c.r.length + n ≤ 300; omega⟩ (evps_cons (P := pTape K M) (evp_var rfl (Mo.mo _ _ _ ((e6.trans e7).trans e8) hmv)) (evps_cons (P := pD (dCf c)) (evd_v rfl (hcv.m (Tsm.ex e8))) (evps_cons (evp (ev_var rfl)) evps_nil)))) fun rv H9 e9 hrv => ?_
  have hrv : pL ((M.runM n c).map dCf) rv H9 := hrv
  obtain ⟨hrl1, hrl2⟩ := runM_len (M := M) n c
  obtain ⟨hlast, hstop⟩ := runM_last (M := M) n c
  have hmem : ∀ a ∈ M.runM n c, a.Ok M ∧ a.l.length + a.r.length ≤ 100 := fun a ha => ⟨runM_mem hM n hok a ha, by have := runM_size (M := M) n c a ha; omega⟩
  have hlineOk : ∀ a : Cf, a.l.length + a.r.length ≤ 100 → stripOk (ts, M.line a) := fun a h => ⟨hA, htl, by show (M.line a).length ≤ 900; rw [line_len]; omega⟩
  have e09 := e08.trans e9
  have e69 := (e7.trans e8).trans e9
  have hstep : ∀ a : Cf, a.Ok M → stepO ts (M.line a) = (M.next a).map M.line := fun a ha => stepO_line hM hperm ha
  refine q_forR1 (j := 5) (n := ((M.runM n c).length : Int) - 1) (ea_cons (ev_is (ev_I (ev_lenL (evl_v rfl hrv)) ev_c) (by rw [List.length_map])) ea_nil) ⟨by omega, by omega⟩ (fun i σ' H' => Ex H9 H' ∧ ∃ (a : Cf) (lv : V) (z5 z12 : Option V), (M.runM n c)[i]? = some a ∧ Is H' lv (dI (M.line a)) ∧ σ' = [some sv, some (.int num), some mv, some (.int (n : Int)), z4, z5, z6, some stv, some cv, some lv, some bv, some rv, z12])
    (fun H10 e10 => ⟨e10, c, lv0, none, none, runM_head n c, hlv0.m (Tsm.ex (e9.trans e10)), rfl⟩) (fun i σ' H' hi ⟨e10, a, lv, z5, z12, ha, hlv, es⟩ => ?_) fun σ' H' ⟨e10, a, lv, z5, z12, ha, hlv, es⟩ => ?_
  · subst es
    have hi1 : i + 1 < (M.runM n c).length := by omega
    obtain ⟨b, hb⟩ : ∃ b, (M.runM n c)[i + 1]? = some b := ⟨_, List.getElem?_eq_getElem hi1⟩
    have hnx := runM_next n c i a b ha hb
    obtain ⟨haok, hasz⟩ := hmem a (List.mem_of_getElem? ha)
    obtain ⟨hbok, hbsz⟩ := hmem b (List.mem_of_getElem? hb)
    have hsa := hstep a haok
    rw [hnx] at hsa
    have hsD : stepD ts (M.line a) = dI (M.line b) := by unfold stepD; rw [hsa]; rfl
    have e610 := e69.trans e10
    refine q_asgP (evp_mStrip (ts := ts) (ts, M.line a) (hlineOk a hasz) (hlo e610 (ev_var rfl)) (Mo.mo _ _ _ e610 hz) (evps_cons (P := pD (dI (M.line a))) (evd_v rfl hlv) evps_nil)) fun fv H11 e11 hfv => ?_
    have hfv : Is H11 fv (stepD ts (M.line a)) := hfv
    rw [hsD] at hfv
    have e611 := e610.trans e11
    have hrv11 : pL ((M.runM n c).map dCf) rv H11 := Mo.mo _ _ _ (e10.trans e11) hrv
    have hmv11 : pTape K M mv H11 := Mo.mo _ _ _ (e6.trans e611) hmv
    have hst11 : pStair K M ts stv H11 := Mo.mo _ _ _ e611 hst
    have hb1 : ((M.runM n c).map dCf)[i + 1]? = some (dCf b) := by rw [List.getElem?_map, hb]; rfl
    have ha1 : ((M.runM n c).map dCf)[i]? = some (dCf a) := by rw [List.getElem?_map, ha]; rfl
    have hixb : ∃ j, ixN ((M.runM n c).map dCf).length ((i : Int) + 1) = some j ∧ ((M.runM n c).map dCf)[j]? = some (dCf b) := ix_nat (k := i + 1) hb1 rfl
    refine q_when (b := false) (et_is (et_or (et_test (ev_isN0 (evd_v rfl hfv))) fun _ => et_or (et_test (ev_neD (d := dI (M.line b)) (evd_v rfl hfv) ((evp_call (M, b) ⟨hM, hbok, by show b.l.length + b.r.length ≤ 400; omega⟩ (evps_cons (P := pTape K M) (evp_var rfl hmv11) (evps_cons (P := pD (dCf b)) (evd_ixL (evl_v rfl hrv11) (ev_I (ev_var rfl) ev_c) hixb) evps_nil))).wk fun _ _ _ p => p) (sh_dI _))) fun _ => et_or (et_test (ev_neD (d := dCf b) ((evp_mStair (M := M) (ts := ts) (M, ts, b) ⟨hM, hbok, by show b.l.length + b.r.length ≤ 400; omega⟩ (ev_var rfl) hst11 (evps_cons (P := pD (dI (M.line b))) (evd_v rfl hfv) evps_nil)).wk fun _ _ _ p => p) (evd_ixL (evl_v rfl hrv11) (ev_I (ev_var rfl) ev_c) hixb) (sh_dCf b))) fun _ => et_test (ev_neI (a := 1) (b := 1) (ev_of ((evp_mStair (M := M) (ts := ts) (M, ts, a) ⟨hM, haok, by show a.l.length + a.r.length ≤ 400; omega⟩ (ev_var rfl) hst11 (evps_cons (P := pD (dCf a)) (evd_ixL (evl_v rfl hrv11) (ev_var rfl) (ix_nat ha1 rfl)) evps_nil)).wk fun w H' _ p => ?_)) ev_c)) rfl) (fun z => nomatch z) fun _ H12 e12 => ?_
    · have p : w = .int (if (M.row a.q a.a).isNone then 0 else 1) := p
      rw [next_row hnx] at p
      exact p
    · exact s_asg (ev_var rfl) fun H13 e13' => ⟨((e10.trans e11).trans e12).trans e13', b, fv, _, _, hb, hfv.m (Tsm.ex (e12.trans e13')), rfl⟩
  · subst es
    have hlen1 : (((M.runM n c).length : Int) - 1).toNat = (M.runM n c).length - 1 := by omega
    rw [hlen1, hlast] at ha
    obtain rfl : M.lastM n c = a := Option.some.inj ha
    obtain ⟨haok, hasz⟩ := hmem (M.lastM n c) (List.mem_of_getElem? hlast)
    have e610 := e69.trans e10
    have hrv10 : pL ((M.runM n c).map dCf) rv H' := Mo.mo _ _ _ e10 hrv
    have hst10 : pStair K M ts stv H' := Mo.mo _ _ _ e610 hst
    -- the last item of the run
    have hlastix : ∃ j, ixN ((M.runM n c).map dCf).length (-1) = some j ∧ ((M.runM n c).map dCf)[j]? = some (dCf (M.lastM n c)) := by
      refine ⟨(M.runM n c).length - 1, ?_, by rw [List.getElem?_map, hlast]; rfl⟩
      have h1 : ((M.runM n c).map dCf).length = (M.runM n c).length - 1 + 1 := by rw [List.length_map]; omega
      rw [h1]
      exact ixN_last
    have hsa := hstep _ haok
    refine q_when (b := false) (et_is (b := false) (a := decide (((M.runM n c).length : Int) ≤ (n : Int)) && (!(stepO ts (M.line (M.lastM n c))).isNone || (!decide ((stepO ts (M.line (M.lastM n c))).isNone = true) || !decide ((if (M.row (M.lastM n c).q (M.lastM n c).a).isNone then (0 : Int) else 1) = 0)))) (et_and (et_test (ev_is (ev_I (ev_lenL (evl_v rfl hrv10)) (ev_var rfl)) (by rw [List.length_map]))) fun _ => et_or (et_test (ev_notNstep (evp_mStrip (ts := ts) (ts, M.line (M.lastM n c)) (hlineOk _ hasz) (hlo e610 (ev_var rfl)) (Mo.mo _ _ _ e610 hz) (evps_cons (P := pD (dI (M.line (M.lastM n c)))) (evd_v rfl hlv) evps_nil)))) fun _ => et_or (et_test (ev_isnotB (ev_of (evp_mStrip (ts := ts) (ts, M.line (M.lastM n c)) (hlineOk _ hasz) (hlo e610 (ev_var rfl)) (Mo.mo _ _ _ e610 hz) (evps_cons (P := pD (dI (M.line (M.lastM n c)))) (evd_v rfl hlv) evps_nil))) ev_c)) fun _ => et_test (ev_neI (ev_of (evp_mStair (M := M) (ts := ts) (M, ts, M.lastM n c) ⟨hM, haok, by show (M.lastM n c).l.length + (M.lastM n c).r.length ≤ 400; omega⟩ (ev_var rfl) hst10 (evps_cons (P := pD (dCf (M.lastM n c))) (evd_ixL (evl_v rfl hrv10) (ev_un ev_c ru_neg) hlastix) evps_nil))) ev_c)) ?_) (fun z => nomatch z) fun _ H11 e11 => ?_
    · by_cases hle : (M.runM n c).length ≤ n
      · have hnone := hstop hle
        rw [hsa, hnone, next_none hnone]
        simp
      · rw [decide_eq_false (by omega)]
        rfl
    · have e611 := e610.trans e11
      have hrv11 : pL ((M.runM n c).map dCf) rv H11 := Mo.mo _ _ _ e11 hrv10
      have hrun := runO_line hM hperm n hok
      have hlv11 := hlv.m (Tsm.ex e11)
      have hbv11 := hbv.m (Tsm.ex ((e9.trans e10).trans e11))
      have hpl : (((M.runM n c).length : Int) - 1) = (((M.runM n c).length - 1 : Nat) : Int) := by omega
      refine q_when (b := false) (et_is (et_or (et_test (ev_neD (d := .tuple [dI (M.line (M.lastM n c)), .int (((M.runM n c).length - 1 : Nat) : Int)]) ((evp_mStrip (ts := ts) (ts, M.line c, n) ⟨hA, htl, by show (M.line c).length + 2 * n ≤ 900; rw [line_len]; omega⟩ (hlo e611 (ev_var rfl)) (Mo.mo _ _ _ e611 hz) (evps_cons (P := pD (dI (M.line c))) (evd_v rfl hbv11) (evps_cons (evp (ev_var rfl)) evps_nil))).wk fun w H' _ p => ?_) (evd_tup (evds_cons (evd_v rfl hlv11) (evds_cons (evd_int (ev_is (ev_I (ev_lenL (evl_v rfl hrv11)) ev_c) ?_)) evds_nil)) (by simp)) (sh_pair _ _))) fun _ => et_test (ev_neI (a := 0) (b := 0) (ev_of (evp_meth0E T (Mo.mo _ _ _ e611 hst) (ev_var rfl) (evd_ixL (evl_v rfl hrv11) (ev_un ev_c ru_neg) hlastix))) ev_c)) rfl) (fun z => nomatch z) fun _ H12 e12 => ?_
      · have p : Is H' w (.tuple [dI (runO ts n (M.line c)).1, .int ((runO ts n (M.line c)).2 : Int)]) := p
        rw [hrun] at p
        exact p
      · rw [List.length_map, ← hpl]
      · have e612 := e611.trans e12
        refine s_retP (P := pB true) (evp_callX (c := fun _ : Int => True) (fun z => (M, ts, z)) (evps_XS (P := pTape K M) (Ps := fun z : Int => [pStair K M ts, pI z]) (evp_var rfl (Mo.mo _ _ _ (e6.trans e612) hmv)) (evps_XS (P := pStair K M ts) (Ps := fun z : Int => [pI z]) (evp_var rfl (Mo.mo _ _ _ e612 hst)) (evps_X1 (evp_xAI (evp_cell (ns := ns) (by omega) (ev_var rfl) (Mo.mo _ _ _ (e06.trans e612) hsv) ev_c)) evps_nil))) (fun z _ => ⟨hM, hperm⟩) fun z v H _ r => r) fun w H13 e13' p13 => k w H13 ((e06.trans e612).trans e13') p13
end
end SD
end
section
set_option Elab.async false
set_option linter.all false
set_option maxRecDepth 100000
set_option maxHeartbeats 0
namespace SD
open PySem PySem.Spec PyProof.Rows L2 Evl SDR
theorem law_facts {P : Program} {w : World} {K : PySem.W.Frag} {h : Heap} {mg : Str → Option Value} {f : Addr} (X : K.In h) (G : h.Ns mainGlobals mg) (hfa : mg ("law" : Str) = some (.ref f)) (c : He.SaysD fa fn K) :
    ∃ fd : FuncData, (∀ (s : Shared) (v : Value), BindsTo s fd ⟨[v], []⟩ [("_law_script", v)]) ∧ ∀ base : Heap, K.In base → base.Ns mainGlobals mg → FnOk P w K mg base CX0 7 f fd ["_law_script"] (sp_law K) := by
  obtain ⟨T⟩ := txt_of X G c
  have e := hfa.symm.trans T.g_law
  cases e
  have b := FunD.bindsA (ps := ["_law_script"]) T.F_law fun _ _ _ _ _ _ us hl => match us, hl with | [_], _ => rfl
  exact ⟨T.fd_law, fun s v => b s [v] rfl, fun base _ _ => ok_law T⟩
end SD
open PySem PySem.W PySem.Calls PyProof.Rows
theorem PySem.Challenge.cw_stepdown_k22_whole_strips_do_the_same_holds : PySem.Challenge.rw_stepdown_k22_whole_strips_do_the_same.Holds := by
  w_on; o_law
  refine HandSHeadRun.head_any (r := OpenLaw.row PySem.Challenge.rw_stepdown_k22_whole_strips_do_the_same) (q := view (OpenLaw.row PySem.Challenge.rw_stepdown_k22_whole_strips_do_the_same).prog [50]) (H := SD.hk) (ob := SD.ob) (M := 6000) (loose := SD.loose) (d := HandSHeadRun.topDef (OpenLaw.row PySem.Challenge.rw_stepdown_k22_whole_strips_do_the_same).prog 50) (kwd := []) SD.ob_eq
    (by kernel_rfl) (fun s => by kernel_rfl) SD.run (by kernel_rfl) (by kernel_rfl) (by kernel_rfl) (by rfl) (by first | assumption | decide +kernel) (by decide +kernel) ⟨rfl, rfl, rfl, rfl, rfl, by decide +kernel⟩ ?hw ?hc
  case hw => w_witness2
  case hc =>
    refine L2.walk_ofE (l := PySem.Challenge.rw_stepdown_k22_whole_strips_do_the_same) (n := 63) (k := 7) (x := "_law_script") (CX := L2.CX0) rfl (by decide) (by kernel_rfl) ⟨rfl, by decide, by decide⟩ ?F (fun _ _ _ _ z => z)
    intro w mg fa h Y G hmg0
    obtain ⟨K, KX, c⟩ := Y
    have hmg : mg ("law" : PySem.Str) = some (.ref fa) := by
      have e : (HandSHeadRun.topDef (OpenLaw.row PySem.Challenge.rw_stepdown_k22_whole_strips_do_the_same).prog 50).name = ("law" : PySem.Str) := by kernel_rfl
      rw [← e]
      exact hmg0
    obtain ⟨fd, hb, hF⟩ := SD.law_facts (P := (PySem.Challenge.rw_stepdown_k22_whole_strips_do_the_same).prog) (w := w) KX G hmg c
    exact ⟨K, fd, SD.sp_law K, KX, hb, fun H a ns hl _ hS => ⟨ns, hl, ⟨⟨a, rfl, hS⟩, trivial⟩, fun v H' _ r => r⟩, hF⟩
end
