import PyProof.Rows.All
import Wide.All
import OpenK.AllK
import Wide.FinOn
import HandS.ForMost
import HandS.Walk
import PyProof.ReprRoads
import PyProof.AutoSeq1
import KE.GoesEnum
import KE.GoesEnumKw
import HandS.SetFor
import HandS.Strs
import HandS.IsInst
import HandS.Style
import HandS.Deep
import HandS.SetKeys
import PySem.Challenge.RW_lumpplans_k83_whole_entries_from_shapes
set_option Elab.async false
set_option linter.all false
/-! Plain mathematics of shapes: no program here. -/
namespace Lp
/-- a shape -/
inductive Sh where
  | o
  | p (l r : Sh)
  deriving DecidableEq
namespace Sh
def size : Sh → Nat
  | .o => 1
  | .p l r => l.size + r.size
theorem size_pos : ∀ s : Sh, 1 ≤ s.size
  | .o => Nat.le_refl 1
  | .p l r => Nat.le_trans (size_pos l) (Nat.le_add_right _ _)
theorem size_one {s : Sh} (h : s.size = 1) : s = .o := by
  cases s with
  | o => rfl
  | p l r =>
    have h1 := size_pos l
    have h2 := size_pos r
    have h3 : l.size + r.size = 1 := h
    omega
theorem size_l_lt (l r : Sh) : l.size < (Sh.p l r).size := by
  have := size_pos r
  show l.size < l.size + r.size
  omega
theorem size_r_lt (l r : Sh) : r.size < (Sh.p l r).size := by
  have := size_pos l
  show r.size < l.size + r.size
  omega
/-- the comb with k pressings -/
def comb (left : Bool) : Nat → Sh
  | 0 => .o
  | k + 1 => if left then .p (comb left k) .o else .p .o (comb left k)
theorem comb_size (left : Bool) : ∀ k : Nat, (comb left k).size = k + 1
  | 0 => rfl
  | k + 1 => by
    have ih := comb_size left k
    cases left
    · show 1 + (comb false k).size = k + 1 + 1
      omega
    · show (comb true k).size + 1 = k + 1 + 1
      omega
/-- the lumps filled, in order; what lacks is one lump -/
def fill : Sh → List Sh → Sh
  | .o, ps => ps.headD .o
  | .p l r, ps => .p (fill l (ps.take l.size)) (fill r (ps.drop l.size))
/-- the sum of the sizes -/
def total (ps : List Sh) : Nat := (ps.map size).sum
theorem total_nil : total [] = 0 := rfl
theorem total_cons (s : Sh) (ps : List Sh) : total (s :: ps) = s.size + total ps := by
  unfold total
  rw [List.map_cons, List.sum_cons]
theorem total_append (ps qs : List Sh) : total (ps ++ qs) = total ps + total qs := by
  unfold total
  rw [List.map_append, List.sum_append]
theorem total_split (ps : List Sh) (k : Nat) : total (ps.take k) + total (ps.drop k) = total ps := by
  rw [← total_append, List.take_append_drop]
theorem total_len (ps : List Sh) : ps.length ≤ total ps := by
  induction ps with
  | nil => exact Nat.le_refl 0
  | cons s r ih =>
    have := size_pos s
    rw [total_cons, List.length_cons]
    omega
theorem total_ones (k : Nat) : total (List.replicate k .o) = k := by
  induction k with
  | zero => rfl
  | succ k ih =>
    rw [List.replicate_succ, total_cons, ih]
    show 1 + k = k + 1
    omega
theorem fill_size : ∀ (s : Sh) (ps : List Sh), ps.length = s.size → (fill s ps).size = total ps
  | .o, ps, h => by
    match ps, h with
    | [q], _ =>
      show q.size = total [q]
      rw [total_cons, total_nil]
      rfl
  | .p l r, ps, h => by
    have h' : ps.length = l.size + r.size := h
    have h1 : (ps.take l.size).length = l.size := by
      rw [List.length_take]
      omega
    have h2 : (ps.drop l.size).length = r.size := by
      rw [List.length_drop]
      omega
    show (fill l (ps.take l.size)).size + (fill r (ps.drop l.size)).size = total ps
    rw [fill_size l _ h1, fill_size r _ h2, total_split]
theorem fill_ones : ∀ s : Sh, fill s (List.replicate s.size .o) = s
  | .o => rfl
  | .p l r => by
    show Sh.p (fill l ((List.replicate (l.size + r.size) .o).take l.size)) (fill r ((List.replicate (l.size + r.size) .o).drop l.size)) = .p l r
    rw [List.take_replicate, List.drop_replicate]
    have e1 : min l.size (l.size + r.size) = l.size := by omega
    have e2 : l.size + r.size - l.size = r.size := by omega
    rw [e1, e2, fill_ones l, fill_ones r]
/-- each part is filled with its share of a row -/
def fillEach : List Sh → List Sh → List Sh
  | [], _ => []
  | q :: qs, row => fill q (row.take q.size) :: fillEach qs (row.drop q.size)
theorem fillEach_len : ∀ (qs row : List Sh), (fillEach qs row).length = qs.length
  | [], _ => rfl
  | q :: qs, row => by
    show (fillEach qs _).length + 1 = qs.length + 1
    rw [fillEach_len qs]
theorem fillEach_take : ∀ (qs row : List Sh) (k : Nat), (fillEach qs row).take k = fillEach (qs.take k) (row.take (total (qs.take k)))
  | [], row, k => by
    rw [List.take_nil]
    show [].take k = []
    rw [List.take_nil]
  | q :: qs, row, 0 => rfl
  | q :: qs, row, k + 1 => by
    show fill q (row.take q.size) :: (fillEach qs (row.drop q.size)).take k = fillEach (q :: qs.take k) (row.take (total (q :: qs.take k)))
    rw [fillEach_take qs _ k, total_cons]
    show _ = fill q ((row.take (q.size + total (qs.take k))).take q.size) :: fillEach (qs.take k) ((row.take (q.size + total (qs.take k))).drop q.size)
    rw [List.take_take, List.drop_take]
    have e1 : min q.size (q.size + total (qs.take k)) = q.size := by omega
    have e2 : q.size + total (qs.take k) - q.size = total (qs.take k) := by omega
    rw [e1, e2]
theorem fillEach_drop : ∀ (qs row : List Sh) (k : Nat), (fillEach qs row).drop k = fillEach (qs.drop k) (row.drop (total (qs.take k)))
  | [], row, k => by
    rw [List.drop_nil]
    show [].drop k = []
    rw [List.drop_nil]
  | q :: qs, row, 0 => rfl
  | q :: qs, row, k + 1 => by
    show (fillEach qs (row.drop q.size)).drop k = fillEach (qs.drop k) (row.drop (total (q :: qs.take k)))
    rw [fillEach_drop qs _ k, total_cons, List.drop_drop]
theorem fill_fill : ∀ (s : Sh) (qs row : List Sh), qs.length = s.size → row.length = total qs → fill (fill s qs) row = fill s (fillEach qs row)
  | .o, qs, row, h, h2 => by
    match qs, h, h2 with
    | [q], _, h2 =>
      show fill q row = fill q (row.take q.size)
      have e : row.length = q.size := by
        rw [h2, total_cons, total_nil]
        rfl
      rw [← e, List.take_length]
  | .p l r, qs, row, h, h2 => by
    have h' : qs.length = l.size + r.size := h
    have a1 : (qs.take l.size).length = l.size := by
      rw [List.length_take]
      omega
    have a2 : (qs.drop l.size).length = r.size := by
      rw [List.length_drop]
      omega
    have t := total_split qs l.size
    have b1 : (row.take (total (qs.take l.size))).length = total (qs.take l.size) := by
      rw [List.length_take]
      omega
    have b2 : (row.drop (total (qs.take l.size))).length = total (qs.drop l.size) := by
      rw [List.length_drop]
      omega
    show Sh.p (fill (fill l (qs.take l.size)) (row.take (fill l (qs.take l.size)).size)) (fill (fill r (qs.drop l.size)) (row.drop (fill l (qs.take l.size)).size)) = Sh.p (fill l ((fillEach qs row).take l.size)) (fill r ((fillEach qs row).drop l.size))
    rw [fill_size l _ a1, fill_fill l _ _ a1 b1, fill_fill r _ _ a2 b2, fillEach_take, fillEach_drop]
end Sh

/-! ### tables, rows, plans -/
/-- a table: its entries from 2 on -/
abbrev Tab := List Sh
namespace Tab
def size (T : Tab) : Nat := T.length + 1
def entry (T : Tab) (m : Nat) : Sh := if m ≤ 1 then .o else T.getD (m - 2) .o
/-- each entry has its size -/
def Ok (T : Tab) : Prop := 1 ≤ T.length ∧ ∀ m, 2 ≤ m → m ≤ T.length + 1 → (entry T m).size = m
theorem entry_size {T : Tab} (h : Ok T) {m : Nat} (h1 : 1 ≤ m) (h2 : m ≤ size T) : (entry T m).size = m := by
  by_cases e : m = 1
  · subst e
    rfl
  · exact h.2 m (by omega) h2
end Tab
/-- the sizes of the stretches of b of m -/
def cutsOf (b : Nat) : Nat → Nat → List Nat
  | 0, _ => []
  | f + 1, m => if m = 0 then [] else min b m :: cutsOf b f (m - b)
/-- the number of stretches -/
def ups (b m : Nat) : Nat := (m + b - 1) / b
/-- the stretch number i of m lumps -/
def cut (b m i : Nat) : Nat := min b (m - i * b)
def cuts (b m : Nat) : List Nat := (List.range (ups b m)).map (cut b m)
theorem ups_pos {b m : Nat} (hb : 1 ≤ b) (hm : 1 ≤ m) : 1 ≤ ups b m := by
  unfold ups
  exact (Nat.le_div_iff_mul_le (by omega)).mpr (by omega)
theorem ups_le {b m : Nat} (hb : 1 ≤ b) : ups b m ≤ m := by
  unfold ups
  by_cases h0 : m = 0
  · subst h0
    rw [Nat.div_eq_of_lt (by omega)]
    exact Nat.le_refl 0
  · have h1 : (m + b - 1) < (m + 1) * b := by
      have h2 : 1 * b ≤ m * b := Nat.mul_le_mul_right b (by omega)
      have h3 : m * 1 ≤ m * b := Nat.mul_le_mul_left m hb
      have h4 : (m + 1) * b = m * b + b := Nat.succ_mul m b
      omega
    have h5 : (m + b - 1) / b < m + 1 := (Nat.div_lt_iff_lt_mul (by omega)).mpr h1
    omega
theorem ups_lt {b m : Nat} (hb : 2 ≤ b) (hm : 2 ≤ m) : ups b m < m := by
  unfold ups
  refine (Nat.div_lt_iff_lt_mul (by omega)).mpr ?_
  have h2 : m * 2 ≤ m * b := Nat.mul_le_mul_left m hb
  have h3 : 2 * b ≤ m * b := Nat.mul_le_mul_right b hm
  have h4 : 2 * (m + b) ≤ m * b + m * b ∨ True := .inr trivial
  -- (m - 1) * (b - 1) is at least 1
  have h5 : (m - 2) * (b - 2) + 2 * (m - 2) + 2 * (b - 2) + 4 = m * b := by
    obtain ⟨x, rfl⟩ : ∃ x, m = x + 2 := ⟨m - 2, by omega⟩
    obtain ⟨y, rfl⟩ : ∃ y, b = y + 2 := ⟨b - 2, by omega⟩
    have e1 : x + 2 - 2 = x := by omega
    have e2 : y + 2 - 2 = y := by omega
    rw [e1, e2, Nat.add_mul, Nat.mul_add]
    omega
  omega
/-- the stretches begin within the row -/
theorem ups_in {b m i : Nat} (hb : 1 ≤ b) : i < ups b m ↔ i * b < m := by
  unfold ups
  rw [Nat.lt_div_iff_mul_lt (by omega)]
  have : i * b < m + b - 1 - (b - 1) ↔ i * b < m := by
    have e : m + b - 1 - (b - 1) = m := by omega
    rw [e]
  first
    | exact this
    | omega
end Lp
set_option Elab.async false
set_option linter.all false
namespace Lp
open Sh
theorem cut_pos {b m i : Nat} (hb : 1 ≤ b) (h : i < ups b m) : 1 ≤ cut b m i := by
  have h1 := (ups_in hb).mp h
  unfold cut
  omega
theorem cut_le (b m i : Nat) : cut b m i ≤ b := Nat.min_le_left _ _
theorem cuts_len (b m : Nat) : (cuts b m).length = ups b m := by
  unfold cuts
  rw [List.length_map, List.length_range]
/-- the first j stretches together -/
theorem cuts_sum {b m : Nat} (hb : 1 ≤ b) : ∀ j, j ≤ ups b m → ((List.range j).map (cut b m)).sum = min (j * b) m
  | 0, _ => by simp
  | j + 1, h => by
    have ih := cuts_sum (m := m) hb j (by omega)
    have h1 := (ups_in (m := m) (i := j) hb).mp h
    have e : (j + 1) * b = j * b + b := Nat.succ_mul j b
    rw [List.range_succ, List.map_append, List.sum_append, ih, List.map_singleton, List.sum_singleton, e]
    unfold cut
    omega
theorem ups_reach {b m : Nat} (hb : 1 ≤ b) : m ≤ ups b m * b := by
  have h : ¬ ups b m < ups b m := Nat.lt_irrefl _
  rw [ups_in hb] at h
  omega
theorem cuts_total {b m : Nat} (hb : 1 ≤ b) : (cuts b m).sum = m := by
  unfold cuts
  rw [cuts_sum hb _ (Nat.le_refl _)]
  have := ups_reach (m := m) hb
  omega
/-- what the lumps of a row become, stretch by stretch -/
def parts (T : Tab) (m : Nat) : List Sh := (cuts T.size m).map T.entry
theorem Tab.size_ge {T : Tab} (h : Tab.Ok T) : 2 ≤ Tab.size T := by
  have := h.1
  unfold Tab.size
  omega
theorem parts_len (T : Tab) (m : Nat) : (parts T m).length = ups T.size m := by
  unfold parts
  rw [List.length_map, cuts_len]
theorem parts_sizes {T : Tab} (h : Tab.Ok T) (m : Nat) : (parts T m).map Sh.size = cuts T.size m := by
  have hb := Tab.size_ge h
  unfold parts cuts
  rw [List.map_map, List.map_map]
  refine List.map_congr_left fun i hi => ?_
  have hi' : i < ups T.size m := List.mem_range.mp hi
  exact Tab.entry_size h (cut_pos (by omega) hi') (cut_le _ _ _)
theorem parts_total {T : Tab} (h : Tab.Ok T) (m : Nat) : total (parts T m) = m := by
  have hb := Tab.size_ge h
  unfold total
  rw [parts_sizes h, cuts_total (by omega)]
theorem parts_get {T : Tab} {m i : Nat} (hi : i < ups T.size m) : (parts T m)[i]? = some (T.entry (cut T.size m i)) := by
  unfold parts cuts
  rw [List.getElem?_map, List.getElem?_map, List.getElem?_range hi]
  rfl
theorem parts_one {T : Tab} (h : Tab.Ok T) : parts T 1 = [.o] := by
  have hb := Tab.size_ge h
  have e : ups T.size 1 = 1 := by
    have h1 := ups_pos (b := T.size) (m := 1) (by omega) (Nat.le_refl 1)
    have h2 := ups_le (b := T.size) (m := 1) (by omega)
    omega
  have e2 : cut T.size 1 0 = 1 := by
    unfold cut
    omega
  unfold parts cuts
  rw [e]
  show [T.entry (cut T.size 1 0)] = [.o]
  rw [e2]
  rfl
/-- the shape of a plan with an end -/
def tell (left : Bool) : List Tab → Nat → Sh
  | [], n => comb left (n - 1)
  | T :: Ts, n => fill (tell left Ts (ups T.size n)) (parts T n)
theorem tell_size (left : Bool) : ∀ (Ts : List Tab) (n : Nat), (∀ T ∈ Ts, Tab.Ok T) → 1 ≤ n → (tell left Ts n).size = n
  | [], n, _, hn => by
    show (comb left (n - 1)).size = n
    rw [comb_size]
    omega
  | T :: Ts, n, h, hn => by
    have hT := h T List.mem_cons_self
    have hb := Tab.size_ge hT
    have ih := tell_size left Ts (ups T.size n) (fun U hU => h U (List.mem_cons_of_mem _ hU)) (ups_pos (by omega) hn)
    show (fill (tell left Ts (ups T.size n)) (parts T n)).size = n
    rw [fill_size _ _ (by rw [parts_len, ih]), parts_total hT]
theorem tell_one (left : Bool) (Ts : List Tab) (h : ∀ T ∈ Ts, Tab.Ok T) : tell left Ts 1 = .o := size_one (tell_size left Ts 1 h (Nat.le_refl 1))
/-- a row that a table presses -/
def press (T : Tab) (row : List Sh) : List Sh := fillEach (parts T row.length) row
theorem press_len (T : Tab) (row : List Sh) : (press T row).length = ups T.size row.length := by
  unfold press
  rw [fillEach_len, parts_len]
/-- one table more -/
theorem tell_press (left : Bool) {T : Tab} {Ts : List Tab} {row : List Sh} (h : ∀ U ∈ T :: Ts, Tab.Ok U) (hr : 1 ≤ row.length) :
    fill (tell left (T :: Ts) row.length) row = fill (tell left Ts (press T row).length) (press T row) := by
  have hT := h T List.mem_cons_self
  have hb := Tab.size_ge hT
  have hz : (tell left Ts (ups T.size row.length)).size = ups T.size row.length := tell_size left Ts _ (fun U hU => h U (List.mem_cons_of_mem _ hU)) (ups_pos (by omega) hr)
  show fill (fill (tell left Ts (ups T.size row.length)) (parts T row.length)) row = _
  rw [fill_fill _ _ _ (by rw [parts_len, hz]) (by rw [parts_total hT]), press_len]
  rfl
/-- the stretch number i of the row, filled -/
theorem fillEach_get : ∀ (qs row : List Sh) (i : Nat) (q : Sh), qs[i]? = some q → (fillEach qs row)[i]? = some (fill q ((row.drop (total (qs.take i))).take q.size))
  | [], _, _, _, h => by simp at h
  | q0 :: qs, row, 0, q, h => by
    have e : q0 = q := Option.some.inj h
    subst e
    rfl
  | q0 :: qs, row, i + 1, q, h => by
    have ih := fillEach_get qs (row.drop q0.size) i q h
    show (fillEach qs (row.drop q0.size))[i]? = some (fill q ((row.drop (total (q0 :: qs.take i))).take q.size))
    rw [ih, total_cons, List.drop_drop]
theorem parts_take_total {T : Tab} (h : Tab.Ok T) {m i : Nat} (hi : i ≤ ups T.size m) : total ((parts T m).take i) = min (i * T.size) m := by
  have hb := Tab.size_ge h
  unfold total
  rw [List.map_take, parts_sizes h]
  unfold cuts
  rw [← List.map_take, List.take_range]
  rw [show min i (ups T.size m) = i by omega]
  exact cuts_sum (by omega) i hi
theorem press_get {T : Tab} (h : Tab.Ok T) {row : List Sh} {i : Nat} (hi : i < ups T.size row.length) :
    (press T row)[i]? = some (fill (T.entry (cut T.size row.length i)) ((row.drop (i * T.size)).take T.size)) := by
  have hb := Tab.size_ge h
  have h1 := (ups_in (b := T.size) (m := row.length) (i := i) (by omega)).mp hi
  have hc := cut_pos (b := T.size) (m := row.length) (i := i) (by omega) hi
  unfold press
  rw [fillEach_get _ row i _ (parts_get hi), parts_take_total h (Nat.le_of_lt hi), show min (i * T.size) row.length = i * T.size by omega, Tab.entry_size h hc (cut_le _ _ _)]
  congr 2
  -- the stretch of at most T.size lumps
  unfold cut
  by_cases hq : T.size ≤ row.length - i * T.size
  · rw [Nat.min_eq_left hq]
  · rw [Nat.min_eq_right (by omega), List.take_of_length_le (by rw [List.length_drop]; exact Nat.le_refl _), List.take_of_length_le (by rw [List.length_drop]; omega)]
/-! ### which entries are used -/
theorem mem_cuts {b n m : Nat} (hb : 1 ≤ b) (hn : 1 ≤ n) (hm : 2 ≤ m) : m ∈ cuts b n ↔ (m = min b n ∨ m = n % b) := by
  unfold cuts
  rw [List.mem_map]
  constructor
  · rintro ⟨i, hi, e⟩
    have h1 := (ups_in hb).mp (List.mem_range.mp hi)
    unfold cut at e
    by_cases hq : b ≤ n - i * b
    · left
      omega
    · right
      have h2 : n = (n - i * b) + i * b := by omega
      rw [h2, Nat.add_mul_mod_self_right, Nat.mod_eq_of_lt (by omega)]
      omega
  · rintro (e | e)
    · refine ⟨0, List.mem_range.mpr ((ups_in hb).mpr (by omega)), ?_⟩
      unfold cut
      omega
    · have h1 := Nat.div_add_mod n b
      have h2 := Nat.mod_lt n (show b > 0 by omega)
      have h3 : n / b * b = b * (n / b) := Nat.mul_comm _ _
      refine ⟨n / b, List.mem_range.mpr ((ups_in hb).mpr (by omega)), ?_⟩
      unfold cut
      omega
/-- the numbers of lumps that come to the tables -/
def heres : List Tab → Nat → List Nat
  | [], _ => []
  | T :: Ts, n => n :: heres Ts (ups T.size n)
/-- does the table number k use its entry m at n? -/
def uses (Ts : List Tab) (n k m : Nat) : Bool := match Ts[k]?, (heres Ts n)[k]? with
  | some T, some c => decide (2 ≤ m) && (cuts T.size c).contains m
  | _, _ => false
end Lp
set_option Elab.async false
set_option linter.all false
set_option maxRecDepth 100000
/-! The text by places, shapes in the heap. -/
namespace Lp
open PySem PySem.Spec PyProof.Rows L2
/-! ### the text -/
def topS (i : Nat) : Stmt := PySem.Challenge.pw_lumpplans_k83_whole_entries_from_shapes.main.body.getD i (.Pass ⟨0, 0, 0, 0⟩)
abbrev sWrong : Stmt := topS 4
abbrev sIsShape : Stmt := topS 5
abbrev sSizeOf : Stmt := topS 6
abbrev sComb : Stmt := topS 7
abbrev sStretches : Stmt := topS 9
abbrev sTakenOff : Stmt := topS 11
abbrev sReadLevel : Stmt := topS 12
abbrev sReadPair : Stmt := topS 13
abbrev sNothing : Stmt := topS 14
abbrev sFits : Stmt := topS 15
abbrev sTold : Stmt := topS 16
abbrev sLSource : Stmt := topS 18
abbrev sLPick : Stmt := topS 19
abbrev sLOf : Stmt := topS 20
abbrev sLComb : Stmt := topS 21
abbrev sLHalves : Stmt := topS 22
abbrev sLShape : Stmt := topS 23
abbrev sLSize : Stmt := topS 24
abbrev sLAny : Stmt := topS 25
abbrev sLEntry : Stmt := topS 26
abbrev sLFilled : Stmt := topS 27
abbrev sLPressed : Stmt := topS 28
abbrev sLStage : Stmt := topS 29
abbrev sLTold : Stmt := topS 30
abbrev sLUsed : Stmt := topS 31
abbrev sLSizes : Stmt := topS 32
abbrev sLPlan : Stmt := topS 33
abbrev sLaw : Stmt := topS 34

/-! ### heaps -/
/-- the tuples stay -/
def TupK (H H' : Hp) : Prop := ∀ a xs, H a = some (.tup xs) → H' a = some (.tup xs)
theorem TupK.refl (H : Hp) : TupK H H := fun _ _ h => h
theorem TupK.trans {H H1 H2 : Hp} (a : TupK H H1) (b : TupK H1 H2) : TupK H H2 := fun c xs h => b c xs (a c xs h)
theorem Same.tupK {H H' : Hp} (h : Same H H') : TupK H H' := fun a xs e => h a _ e
theorem same_new {H : Hp} {p : Addr} {o : HO} (h : H p = none) : Same H (upd H p o) := fun b u q => by
  rw [upd_ne (ne_of_none q h)]
  exact q
/-- what is new may be written -/
theorem same_wr {H H' : Hp} {p : Addr} {o : HO} (h : Same H H') (n : H p = none) : Same H (upd H' p o) := fun b u q => by
  rw [upd_ne (ne_of_none q n)]
  exact h b u q
/-- the shape at a value -/
def ShV (H : Hp) : Sh → V → Prop
  | .o, v => ∃ a, v = .ref a ∧ H a = some (.tup [])
  | .p l r, v => ∃ a x y, v = .ref a ∧ H a = some (.tup [x, y]) ∧ ShV H l x ∧ ShV H r y
theorem ShV.keep {H H' : Hp} (k : TupK H H') : ∀ {s : Sh} {v : V}, ShV H s v → ShV H' s v
  | .o, _, ⟨a, e, h⟩ => ⟨a, e, k a _ h⟩
  | .p l r, _, ⟨a, x, y, e, h, hl, hr⟩ => ⟨a, x, y, e, k a _ h, ShV.keep k hl, ShV.keep k hr⟩
theorem ShV.same {H H' : Hp} (k : Same H H') {s : Sh} {v : V} (h : ShV H s v) : ShV H' s v := h.keep (Same.tupK k)
theorem ShV.inj {H : Hp} : ∀ {s t : Sh} {v : V}, ShV H s v → ShV H t v → s = t
  | .o, .o, _, _, _ => rfl
  | .o, .p _ _, _, ⟨a, e, h⟩, ⟨b, x, y, e2, h2, _, _⟩ => by
    rw [e] at e2
    cases e2
    rw [h] at h2
    cases h2
  | .p _ _, .o, _, ⟨b, x, y, e2, h2, _, _⟩, ⟨a, e, h⟩ => by
    rw [e] at e2
    cases e2
    rw [h] at h2
    cases h2
  | .p l r, .p l' r', _, ⟨a, x, y, e, h, hl, hr⟩, ⟨b, x', y', e2, h2, hl', hr'⟩ => by
    rw [e] at e2
    cases e2
    rw [h] at h2
    cases h2
    rw [ShV.inj hl hl', ShV.inj hr hr']
/-- a shape's tuple -/
def kids : Sh → Nat
  | .o => 0
  | .p _ _ => 2
theorem ShV.tup {H : Hp} : ∀ {s : Sh} {v : V}, ShV H s v → ∃ a xs, v = .ref a ∧ H a = some (.tup xs) ∧ xs.length = kids s
  | .o, _, ⟨a, e, h⟩ => ⟨a, _, e, h, rfl⟩
  | .p _ _, _, ⟨a, x, y, e, h, _, _⟩ => ⟨a, _, e, h, rfl⟩
/-- a list of shapes at values -/
def ShVs (H : Hp) (ss : List Sh) (vs : List V) : Prop := Paired (fun (v : V) (s : Sh) => ShV H s v) vs ss
theorem ShVs.keep {H H' : Hp} (k : TupK H H') : ∀ {ss : List Sh} {vs : List V}, ShVs H ss vs → ShVs H' ss vs
  | _, _, .nil => .nil
  | _, _, .cons r t => .cons (r.keep k) (ShVs.keep k t)
theorem ShVs.same {H H' : Hp} (k : Same H H') {ss : List Sh} {vs : List V} (h : ShVs H ss vs) : ShVs H' ss vs := h.keep (Same.tupK k)
theorem ShVs.len {H : Hp} {ss : List Sh} {vs : List V} (h : ShVs H ss vs) : vs.length = ss.length := Paired.length h
theorem ShVs.get {H : Hp} : ∀ {ss : List Sh} {vs : List V} {i : Nat} {s : Sh}, ShVs H ss vs → ss[i]? = some s → ∃ v, vs[i]? = some v ∧ ShV H s v
  | _, _, _, _, .nil, e => by simp at e
  | _, _, 0, _, .cons r _, e => by
    simp at e
    subst e
    exact ⟨_, rfl, r⟩
  | _, _, i + 1, _, .cons _ t, e => by
    obtain ⟨v, h1, h2⟩ := ShVs.get (i := i) t (by simpa using e)
    exact ⟨v, by simpa using h1, h2⟩
theorem ShVs.get' {H : Hp} : ∀ {ss : List Sh} {vs : List V} {i : Nat} {v : V}, ShVs H ss vs → vs[i]? = some v → ∃ s, ss[i]? = some s ∧ ShV H s v
  | _, _, _, _, .nil, e => by simp at e
  | _, _, 0, _, .cons r _, e => by
    simp at e
    subst e
    exact ⟨_, rfl, r⟩
  | _, _, i + 1, _, .cons _ t, e => by
    obtain ⟨v, h1, h2⟩ := ShVs.get' (i := i) t (by simpa using e)
    exact ⟨v, by simpa using h1, h2⟩
theorem ShVs.append {H : Hp} : ∀ {ss ts : List Sh} {vs ws : List V}, ShVs H ss vs → ShVs H ts ws → ShVs H (ss ++ ts) (vs ++ ws)
  | _, _, _, _, .nil, s => s
  | _, _, _, _, .cons r t, s => .cons r (ShVs.append t s)
theorem ShVs.take {H : Hp} : ∀ {ss : List Sh} {vs : List V} (n : Nat), ShVs H ss vs → ShVs H (ss.take n) (vs.take n)
  | _, _, 0, _ => .nil
  | _, _, _ + 1, .nil => .nil
  | _, _, n + 1, .cons r t => .cons r (ShVs.take n t)
theorem ShVs.drop {H : Hp} : ∀ {ss : List Sh} {vs : List V} (n : Nat), ShVs H ss vs → ShVs H (ss.drop n) (vs.drop n)
  | _, _, 0, r => r
  | _, _, _ + 1, .nil => .nil
  | _, _, n + 1, .cons _ t => ShVs.drop n t
theorem ShVs.one {H : Hp} {s : Sh} {v : V} (h : ShV H s v) : ShVs H [s] [v] := .cons h .nil

/-! ### shapes as data -/
def Sh.dat : Sh → PyData
  | .o => .tuple []
  | .p l r => .tuple [l.dat, r.dat]
theorem ShV.dp {K : PySem.W.Frag} {H : Hp} : ∀ {s : Sh} {v : V}, ShV H s v → Dp K H v s.dat
  | .o, _, ⟨a, e, h⟩ => by
    subst e
    exact .tup (SqT.of h) .nil
  | .p l r, _, ⟨a, x, y, e, h, hl, hr⟩ => by
    subst e
    exact .tup (SqT.of h) (.cons (ShV.dp hl) (.cons (ShV.dp hr) .nil))
theorem dat_lay : ∀ s : Sh, s.dat.canLay0 = true
  | .o => by simp [Sh.dat, PyData.canLay0, PyData.canLayAll0]
  | .p l r => by simp [Sh.dat, PyData.canLay0, PyData.canLayAll0, dat_lay l, dat_lay r]
theorem dat_depth : ∀ s : Sh, s.dat.depth ≤ s.size
  | .o => by simp [Sh.dat, PyData.depth, PyData.depthAll, Sh.size]
  | .p l r => by
    have h1 := dat_depth l
    have h2 := dat_depth r
    have h3 := l.size_pos
    have h4 := r.size_pos
    simp only [Sh.dat, PyData.depth, PyData.depthAll, Sh.size]
    omega
theorem dat_shaped {s : Sh} (h : s.size ≤ 60) : SeqAt.shaped s.dat = true := by
  have h1 := dat_depth s
  show (s.dat.canLay0 && decide (s.dat.depth ≤ 64)) = true
  rw [Bool.and_eq_true]
  exact ⟨dat_lay s, decide_eq_true (by omega)⟩
theorem dat_eqv : ∀ s t : Sh, PyData.eqv s.dat t.dat = decide (s = t)
  | .o, .o => by simp [Sh.dat, PyData.eqv, PyData.eqvAll]
  | .o, .p _ _ => by simp [Sh.dat, PyData.eqv, PyData.eqvAll]
  | .p _ _, .o => by simp [Sh.dat, PyData.eqv, PyData.eqvAll]
  | .p l r, .p l' r' => by
    have h1 := dat_eqv l l'
    have h2 := dat_eqv r r'
    simp only [Sh.dat, PyData.eqv, PyData.eqvAll, h1, h2]
    simp
/-- a list of values as a list -/
theorem dp_list {K : PySem.W.Frag} {H : Hp} {a : Addr} {vs : List V} {ds : List PyData} (h : H a = some (.lst vs)) (r : DpAll K H vs ds) : Dp K H (.ref a) (.list ds) := .lst (SqL.of h) r
theorem dpAll_shapes {K : PySem.W.Frag} {H : Hp} : ∀ {ss : List Sh} {vs : List V}, ShVs H ss vs → DpAll K H vs (ss.map Sh.dat)
  | _, _, .nil => .nil
  | _, _, .cons r t => .cons r.dp (dpAll_shapes t)
theorem le_line {n : Nat} (h : n ≤ 10000) : n ≤ sizeLine := Nat.le_trans h (by decide)
theorem lt_line {n : Nat} (h : n < 10000) : n < sizeLine := Nat.lt_of_lt_of_le h (by decide)
end Lp
set_option Elab.async false
set_option linter.all false
set_option maxRecDepth 100000
set_option maxHeartbeats 2000000
/-! Rules that the layer lacks: xs.extend(a tuple), repr of nested data, enumerate of a tuple. -/
namespace Lp
open PySem PySem.Spec PyProof.Rows L2
/-! ### xs.extend(t), t a tuple -/
theorem meets_extT (l : Addr) (xs : Array Value) (n : Nat) (t : Addr) (ot : Obj) (ys : Array Value) (m : Nat) (hcls : ot.cls = .type "tuple") (hdat : ot.data = .seq ys m) (hs0 : ¬(!xs.isEmpty && Builtin.List.listTooLong (xs.size + ys.size)) = true)
    (hs1 : xs.size ≤ sizeLine) (hs2 : xs.size + ys.size ≤ sizeLine + 1) :
    Meets (Builtin.«list.extend» ⟨[.ref l, .ref t], []⟩) (fun _ R s => s.heap.get? l = some { cls := .type "list", dict := none, data := .seq xs n, slots := #[] } ∧ s.heap.get? t = some ot ∧
      R (.ok (.ret Value.none)) { s with heap := s.heap.update l (Obj.mapSeq fun x => x ++ ys), toks := s.toks }) :=
  .of_wp fun prog w A R s h => by
    obtain ⟨hp, g, d, tk, os⟩ := s
    obtain ⟨hl, hb, h⟩ := h
    obtain ⟨oc, od, oa, osl⟩ := ot
    simp only at hcls hdat
    subst hcls
    subst hdat
    have f1 := AutoSeq1.idx_int
    have f2 := AutoSeq1.sub_tuple_tuple
    have f3 := AutoSeq1.sub_list_list
    have f4 := AutoSeq1.sub_tuple_list
    have f5 := AutoSeq1.sub_list_tuple
    have hz : (xs ++ ys).size ≤ sizeLine + 1 := by
      rw [Array.size_append]
      exact hs2
    wp_walk using (wpAny_updateSeq hl rfl (hz := hs1) (_hz' := hz)), AutoSeq1.wpAny_loadPart' hl, AutoSeq1.wpAny_loadPart' hb
    exact ⟨_, rfl, h⟩
section
variable {X : Cx}
def rExtT : V → List V → Hp → VK → Prop := fun x vs H Q => ∃ l b xs zs, x = .ref l ∧ vs = [.ref b] ∧ H l = some (.lst xs) ∧ H b = some (.tup zs) ∧ xs.length + zs.length ≤ sizeLine ∧ Q .non (upd H l (.lst (xs ++ zs)))
theorem mt_extT : MtM X "list.extend" rExtT := by
  intro pins s σ H x vs v us Q I rx rv h
  obtain ⟨l, b, xs, zs, rfl, rfl, hH, hB, hz, q⟩ := h
  cases rx
  obtain ⟨u, rfl, ru⟩ := rv.one
  cases ru
  obtain ⟨z, its, n, r, hl, e⟩ := I.lstM hH
  obtain ⟨its2, r2, ⟨ot, et, ec, m, ed⟩, _⟩ := I.tuple (SqT.of hB)
  have hl2 := r2.length
  have room : its.toArray.size + its2.toArray.size ≤ sizeLine := by
    rw [List.size_toArray, List.size_toArray]
    omega
  have door : ¬ (!its.toArray.isEmpty && Builtin.List.listTooLong (its.toArray.size + its2.toArray.size)) = true := by
    rw [notLongL room, Bool.and_false]
    exact Bool.false_ne_true
  refine call_meets PySem.F.slot_list_extend ⟨_, e, rfl⟩ PySem.F.entry_list_extend (PySem.F.args_list_extend_2 _ _)
    (meets_extT l its.toArray n b ot its2.toArray m ec ed door (by rw [List.size_toArray]; omega) (by omega)) ⟨e, et, ?_⟩
  refine ⟨.non, _, I.lset (its' := its ++ its2) hH e (by simp) (r.append r2) ?_, rfl, q⟩
  rw [List.length_append]
  omega
/-! ### repr(x), x a list or a tuple of data -/
def rReprD (K : PySem.W.Frag) : List V → Hp → VK → Prop := fun vs H Q => ∃ (a : Addr) (d : PyData), vs = [.ref a] ∧ Dp K H (.ref a) d ∧ d.showable = true ∧ d.hasDict = false ∧ d.depth ≤ 62 ∧ d.shown.length ≤ sizeLine ∧ Q (.str d.shown) H
theorem cr_reprD (hg : X.A.guards = some []) (hu : X.A.units + 64 < cLine) : CallR X (.builtin "repr") (rReprD X.K) := by
  intro pins s σ H vs us Q I r h
  obtain ⟨a, d, rfl, hd, hs, hn, hdp, hz, q⟩ := h
  obtain ⟨u, rfl, ru⟩ := vals1 r
  obtain rfl : u = Value.ref a := ru
  obtain ⟨as, rd⟩ := Dp.reads I d (.ref a) (.ref a) hd rfl
  exact repr_of_reads' rd hs (PyData.noDict_hsm hn) hg (by omega) (fun _ _ e => e) (fun h' u tk hk => ⟨.str d.shown, H, I.kept (t' := tk) hk, ⟨u, rfl⟩, q⟩) hz
end
end Lp
set_option Elab.async false
set_option linter.all false
set_option maxRecDepth 100000
set_option maxHeartbeats 2000000
/-! enumerate of a list or a tuple; what walks either. -/
namespace Lp
open PySem PySem.Spec PyProof.Rows L2
/-- a list (true) or a tuple (false) -/
def SqA (m : Bool) (K : PySem.W.Frag) (H : Hp) (a : Addr) (xs : List V) : Prop := if m = true then SqL K H a xs else SqT K H a xs
theorem SqA.same {m : Bool} {K : PySem.W.Frag} {H H' : Hp} {a : Addr} {xs : List V} (h : SqA m K H a xs) (k : Same H H') : SqA m K H' a xs := by
  cases m with
  | true => exact k.seq (show SqL K H a xs from h)
  | false =>
    rcases (show SqT K H a xs from h) with (q | ⟨o, q⟩) | q
    · exact .inl (.inl (k _ _ q))
    · exact .inl (.inr ⟨o, k _ _ q⟩)
    · exact .inr q
theorem meets_enum1 {v : Value} {o : Obj} {H : Heap → Prop} (B : Begins v o H) :
    Meets (Builtin.«enumerate.__new__» ⟨[.type "enumerate", v], []⟩) (fun _ R s => H s.heap ∧
      R (.ok (.ret (.ref (s.heap.push o).objs.size))) { s with heap := (s.heap.push o).push { cls := .type "enumerate", data := .fields #[.none, .bool false, .ref s.heap.objs.size, rawInt 0, .none, .none] } }) :=
  .of_wp fun prog w A R s h => by
    obtain ⟨hp, g, d, tk, os⟩ := s
    obtain ⟨h1, h⟩ := h
    have hsub := sub_enumerate
    have q1 : ∀ {A' : Around} {E : Value → Shared → Prop} {Q : Value → Shared → Prop}, Q (.ref hp.objs.size) ⟨hp.push o, g, d, tk, os⟩ → wpAny (model prog w) A' (pyIter v) Q E ⟨hp, g, d, tk, os⟩ :=
      fun q => B.iter prog w _ _ ⟨hp, g, d, tk, os⟩ _ h1 q
    wp_walk using q1
    refine wpAny_stack_any fun st => wpAny_pure ?_
    split
    · rename_i c _ _ _ _ _
      cases (c == Value.type "enumerate")
      · wp_walk using q1
        exact ⟨_, rfl, h⟩
      · wp_walk using q1
        exact ⟨_, rfl, h⟩
    · wp_walk using q1
      exact ⟨_, rfl, h⟩
section
variable {prog : Program} {w : World} {A : Around} {E : Value → Shared → Prop} {s : Shared}
theorem enum_begins1 {v : Value} {o : Obj} {H : Heap → Prop} {Q : Value → Shared → Prop} (B : Begins v o H) (h1 : H s.heap)
    (h : ∀ h', IsEnum h' (s.heap.objs.size + 1) s.heap.objs.size 0 .none → h'.get? s.heap.objs.size = some o → (∀ b u, s.heap.get? b = some u → h'.get? b = some u) → Q (.ref (s.heap.objs.size + 1)) { s with heap := h' }) :
    wpAny (model prog w) A (call (.type "enumerate") [v]) Q E s := by
  refine callType_new F.called_enumerate (by decide) (F.typeCall_enumerate_1 _) (F.newCall_enumerate_1 _) (fun obj => F.args_object_init_2 obj _) F.entry_enumerate_new (meets_enum1 B) ⟨h1, ?_⟩
  have e1 : (s.heap.push o).objs.size = s.heap.objs.size + 1 := Heap.size_push ..
  have e2 := Heap.get?_push_size (s.heap.push o) (o := { cls := .type "enumerate", data := .fields #[.none, .bool false, .ref s.heap.objs.size, rawInt 0, .none, .none] }) rfl
  show _ ∧ _
  rw [e1] at e2 ⊢
  exact ⟨⟨_, e2, rfl⟩, h _ e2 (Heap.get?_push_of_some _ (Heap.get?_push_size _ B.free)) fun b u x => Heap.get?_push_of_some _ (Heap.get?_push_of_some _ x)⟩
end
/-- the tuple at a, each item in a new pair with its number -/
def IteT (K : PySem.W.Frag) (a : Addr) (xs : List V) : It :=
  ⟨fun i H => SqT K H a xs ∧ i < xs.length, fun i H v H' => ∃ T x, v = .ref T ∧ H T = none ∧ H' = upd H T (.tup [.int (i : Nat), x]) ∧ xs[i]? = some x, fun i H => SqT K H a xs ∧ i = xs.length⟩
theorem tup_ne_iter {h : Heap} {it a : Addr} {i : Nat} {items : Array Value} (p : IsTup h a items) (q : h.IsTupleIter it a i) : a ≠ it := by
  rintro rfl
  obtain ⟨o, e, c, _⟩ := p
  obtain ⟨o', e', c', _⟩ := q
  rw [e] at e'
  cases e'
  rw [c] at c'
  exact absurd c' (by decide)
theorem tup_ne_enum {h : Heap} {e it a : Addr} {c : Int} {old : Value} {items : Array Value} (p : IsTup h a items) (q : IsEnum h e it c old) : a ≠ e := by
  rintro rfl
  obtain ⟨o, e, c, _⟩ := p
  have q' : h.get? a = some _ := q
  rw [e] at q'
  cases q'
  have c' : Value.type "enumerate" = Value.type "tuple" := c
  exact absurd c' (by decide)
theorem turn_enumT {P : Program} {w : World} {K : PySem.W.Frag} {elts : List Expr} {kk : Nat} {tpos : Pos} (a e it : Addr) (xs : List V) :
    Turn P w K (.Tuple elts kk tpos) (IteT K a xs) [e, it] e (fun i h => (∃ old, IsEnum h e it ((i : Nat) : Int) old) ∧ h.IsTupleIter it a i ∧ e ≠ it) where
  mem := List.mem_cons_self
  obj := fun i h st b hb => by
    obtain ⟨⟨old, q1⟩, ⟨o, ho, hc, hd⟩, _⟩ := st
    rcases List.mem_cons.mp hb with z | z
    · rw [z]
      exact ⟨_, q1, fun v q => nomatch q⟩
    · rw [List.mem_singleton.mp z]
      exact ⟨o, ho, fun v q => by
        rw [hd] at q
        cases q⟩
  keep := fun i h h' st k => by
    obtain ⟨⟨old, q1⟩, q2, q3⟩ := st
    exact ⟨⟨old, k e (by simp) _ q1⟩, q2.at fun o q => k it (by simp) o q, q3⟩
  item := by
    intro X hP hw hK hc i pins s σ H E I hf st hg
    subst hP hw hK
    obtain ⟨⟨old, q1⟩, q2, q3⟩ := st
    obtain ⟨hq, hi⟩ := hg
    obtain ⟨its, rv, p, hz⟩ := I.tuple hq
    have hlen := rv.length
    have n1 := tup_ne_iter p q2
    have n2 := tup_ne_enum p q1
    have le : e < s.heap.objs.size := Heap.lt_size q1
    have li : it < s.heap.objs.size := by
      obtain ⟨_, z, _⟩ := q2
      exact Heap.lt_size z
    have la : a < s.heap.objs.size := p.lt
    have D := Draws.tuple (prog := X.prog) (w := X.w) (A := X.A.in1) (I.ok.hd hc) it a n1 its.toArray
    refine wpAny_pyNext_enum_itemD (e := e) D q1 ⟨q2, p⟩ (by rw [List.size_toArray]; omega) q3 (by simp [q3, Ne.symm n2]) fun u h' tk hu ho st' hT hsz hk => ?_
    refine ⟨_, rfl, wpAny_letOwnedTupleGo_enum (s := { s with heap := h', toks := tk + 1 }) ho fun h2 q1' sb => ?_⟩
    have hx : xs[i]? = some xs[i] := List.getElem?_eq_getElem hi
    obtain ⟨u', hu', ru⟩ := rv.get hx
    have eu : u' = u := by
      have z : its[i]? = some u := by simpa using hu
      rw [z] at hu'
      exact (Option.some.inj hu').symm
    subst eu
    have hT2 : h2.get? s.heap.objs.size = some { cls := .type "tuple", data := .seq #[.int i tk, u'] } := (sb.2 _ (Nat.ne_of_gt le)).trans hT
    have new : ObjOk X.prog X.w (upd H s.heap.objs.size (.tup [.int (i : Nat), xs[i]])) h2 s.heap.objs.size (.tup [.int (i : Nat), xs[i]]) :=
      ⟨(by show 2 ≤ sizeLine; decide), [.int i tk, u'], .cons ⟨_, rfl⟩ (.cons ru .nil), ⟨_, hT2, rfl, _, rfl⟩⟩
    have keep : ∀ b o, b ∉ [e, it] → s.heap.get? b = some o → h2.get? b = some o := fun b o hb q => by
      have b1 : b ≠ e := fun z => hb (by rw [z]; exact List.mem_cons_self)
      have b2 : b ≠ it := fun z => hb (by rw [z]; simp)
      exact (sb.2 b b1).trans (hk b o b1 b2 q)
    have I1 : Inv X pins σ (upd H s.heap.objs.size (.tup [.int (i : Nat), xs[i]])) { s with heap := h2, toks := tk + 1 } := I.turnedNew (ch := [e, it]) keep hf (Nat.le_refl _) new
    refine ⟨.ref s.heap.objs.size, _, I1, rfl, ⟨_, xs[i], rfl, I.hok.fresh (Nat.le_refl _), rfl, hx⟩, ⟨⟨u', ?_⟩, st'.1.at fun o q => (sb.2 it (Ne.symm q3)).trans q, q3⟩, fun b hb => ?_⟩
    · rw [show ((i + 1 : Nat) : Int) = (i : Int) + 1 by omega]
      exact q1'
    · have lb : b < s.heap.objs.size := by
        rcases List.mem_cons.mp hb with z | z
        · rw [z]
          exact le
        · rw [List.mem_singleton.mp z]
          exact li
      rw [upd_ne (Nat.ne_of_lt lb)]
      exact (hf b hb).1
  done := by
    intro X hP hw hK hc i pins s σ H E I hf st hg
    subst hP hw hK
    obtain ⟨⟨old, q1⟩, q2, q3⟩ := st
    obtain ⟨hq, hi⟩ := hg
    obtain ⟨its, rv, p, hz⟩ := I.tuple hq
    have hlen := rv.length
    obtain ⟨f0, f1, f2, f3, f4, f5⟩ := hf it (by simp)
    have D := Draws.tuple (prog := X.prog) (w := X.w) (A := X.A.in1) (I.ok.hd hc) it a (tup_ne_iter p q2) its.toArray
    refine wpAny_pyNext_enum_endD D q1 ⟨?_, p⟩ fun h' eb => ⟨rfl, I.turned (t' := s.toks) (fun b o hb q => eb b o hb q) f0 f1 f3 f4 f5⟩
    rw [List.size_toArray, ← hlen, ← hi]
    exact q2
  self := fun A i s Q E st h => by
    obtain ⟨⟨old, q1⟩, _⟩ := st
    exact wpAny_pyIter_enum q1 h
theorem walk_enumT {K : PySem.W.Frag} {a : Addr} {xs : List V} : Walk (IteT K a xs) xs.length (fun H => SqT K H a xs) (YPair (fun i => some (.int (i : Nat))) (fun i => xs[i]?)) := by
  refine ⟨fun i _ hi q => ⟨q, hi⟩, fun _ q => ⟨q, rfl⟩, fun i H v H' _ q y => ?_⟩
  obtain ⟨T, x, h1, h2, h3, h4⟩ := y
  exact ⟨T, .int (i : Nat), x, h1, h2, h3, rfl, h4⟩
section
variable {X : Cx} {e : Expr} {te : TE} {ta : TA} {p pos tpos : Pos} {elts : List Expr} {kk : Nat}
/-- enumerate(x), x a list or a tuple -/
def iEnumA (K : PySem.W.Frag) (ta : TA) : TI := fun σ H R => ta σ H fun vs H1 => ∃ (m : Bool) (a : Addr) (xs : List V), vs = [.ref a] ∧ SqA m K H1 a xs ∧
  ∀ J, Walk J xs.length (fun H => SqA m K H a xs) (YPair (fun i => some (.int (i : Nat))) (fun i => xs[i]?)) → R J H1
theorem pi_enumA (hg : Gl X "enumerate") (hm : X.mg "enumerate" = none) (ha : PA X [e] ta) (hs : starEach [e] X.env = [(false, eval e X.env)] := by rfl) :
    PI X (.Tuple elts kk tpos) (.Call (.Name "enumerate" p) [e] [] pos) (iEnumA X.K ta) := by
  refine ⟨fun pins s σ H R I h => ?_⟩
  refine Call_ (ld_blt I hg hm boot_enumerate (PyProof.Rows.callWith_type1 (thn (ha.run pos pins s σ H _ I h) fun us s1 ⟨vs, H1, I1, r1, m, a, xs, ev, hq, q⟩ => ?_) hs rfl))
  subst ev
  obtain ⟨u, rfl, ru⟩ := vals1 r1
  obtain rfl : u = Value.ref a := ru
  have fresh2 : ∀ b, b ∈ [s1.heap.objs.size + 1, s1.heap.objs.size] → FpOk X pins H1 b := fun b hb => by
    have hle : s1.heap.objs.size ≤ b := by
      rcases List.mem_cons.mp hb with z | z
      · rw [z]
        exact Nat.le_add_right _ _
      · rw [List.mem_singleton.mp z]
        exact Nat.le_refl _
    exact I1.fpOk hle (I1.hok.fresh hle)
  cases m with
  | true =>
    have hL : SqL X.K H1 a xs := hq
    obtain ⟨its, rv, pl, hz⟩ := I1.list hL
    refine enum_begins1 (begins_list a its.toArray) pl.isList fun h' q1 q2 hk => wpAny_pyIter_enum q1 ?_
    exact ⟨s1.heap.objs.size + 1, [s1.heap.objs.size + 1, s1.heap.objs.size], _, _, H1, rfl, I1.kept (t' := s1.toks) hk, turn_enum a (s1.heap.objs.size + 1) s1.heap.objs.size, ⟨⟨.none, q1⟩, ⟨_, q2, rfl, rfl⟩, Nat.succ_ne_self _⟩, fresh2, q _ walk_enum⟩
  | false =>
    have hT : SqT X.K H1 a xs := hq
    obtain ⟨its, rv, pl, hz⟩ := I1.tuple hT
    refine enum_begins1 (begins_tuple a its.toArray) (show s1.heap.IsTuple a its.toArray from pl) fun h' q1 q2 hk => wpAny_pyIter_enum q1 ?_
    exact ⟨s1.heap.objs.size + 1, [s1.heap.objs.size + 1, s1.heap.objs.size], _, _, H1, rfl, I1.kept (t' := s1.toks) hk, turn_enumT a (s1.heap.objs.size + 1) s1.heap.objs.size xs, ⟨⟨.none, q1⟩, ⟨_, q2, rfl, rfl⟩, Nat.succ_ne_self _⟩, fresh2, q _ walk_enumT⟩
/-- a list or a tuple, walked -/
def iSeqA (K : PySem.W.Frag) (te : TE) : TI := fun σ H R => te σ H fun x H1 => ∃ (m : Bool) (a : Addr) (xs : List V), x = .ref a ∧ SqA m K H1 a xs ∧ ∀ J, Walk J xs.length (fun H => SqA m K H a xs) (YAt xs) → R J H1
theorem pi_seqA {tg : Expr} (he : PE X e te) : PI X tg e (iSeqA X.K te) := by
  refine ⟨fun pins s σ H R I h => ?_⟩
  refine thn (he.run pins s σ H _ I h) fun v s1 ⟨x, H1, I1, r1, m, a, xs, ex, hq, q⟩ => ?_
  subst ex
  obtain rfl : v = Value.ref a := r1
  have fresh1 : ∀ b, b ∈ [s1.heap.objs.size] → FpOk X pins H1 b := fun b hb => by
    rw [List.mem_singleton.mp hb]
    exact I1.fpOk (Nat.le_refl _) (I1.hok.fresh (Nat.le_refl _))
  cases m with
  | true =>
    have hL : SqL X.K H1 a xs := hq
    obtain ⟨its, rv, pl, hz⟩ := I1.list hL
    refine wpAny_pyIter_list pl.isList ?_
    exact ⟨s1.heap.objs.size, [s1.heap.objs.size], _, _, H1, rfl, I1.kept (t' := s1.toks) fun b o e => Heap.get?_push_of_some _ e, turn_list a _, ⟨_, Heap.get?_push_size _ rfl, rfl, rfl⟩, fresh1, q _ walk_list⟩
  | false =>
    have hT : SqT X.K H1 a xs := hq
    obtain ⟨its, rv, pl, hz⟩ := I1.tuple hT
    refine wpAny_pyIter_tuple (show s1.heap.IsTuple a its.toArray from pl) ?_
    exact ⟨s1.heap.objs.size, [s1.heap.objs.size], _, _, H1, rfl, I1.kept (t' := s1.toks) fun b o e => Heap.get?_push_of_some _ e, turn_tuple a _, ⟨_, Heap.get?_push_size _ rfl, rfl, rfl⟩, fresh1, q _ walk_tup⟩
end
end Lp
set_option Elab.async false
set_option linter.all false
set_option maxRecDepth 100000
set_option maxHeartbeats 4000000
/-! zip(a, b, strict=True) of a list or a tuple with a list of the same length. -/
namespace Lp
open PySem PySem.Spec PyProof.Rows L2
/-- a strict zip at its place -/
abbrev IsZipS (h : Heap) (z TI TO : Addr) (f0 : Value) : Prop :=
  h.get? z = some { cls := .type "zip", dict := none, data := .fields #[f0, .bool false, .bool true, .ref TI, .ref TO], slots := #[] }
section
variable {prog : Program} {w : World} {A : Around} {E : Value → Shared → Prop} {s : Shared} {z TI TO i1 i2 : Addr} {fp1 fp2 : List Addr} {n i : Nat} {P1 P2 : Nat → Value → Prop} {St1 St2 : Nat → Heap → Prop} {a1 a2 : Value}
theorem nextOrEnd_item {it : Addr} {fp : List Addr} {P : Nat → Value → Prop} {St : Nat → Heap → Prop} {Q : Option Value → Shared → Prop} (D : Draws prog w A it fp n P St) (hi : i < n) (st : St i s.heap)
    (hQ : ∀ x h' tk, P i x → St (i + 1) h' → Heap.SameBut it s.heap h' → Q (some x) { s with heap := h', toks := tk }) : wpAny (model prog w) A (Builtin.SmallTypes.nextOrEnd (.ref it)) Q E s := by
  unfold Builtin.SmallTypes.nextOrEnd
  exact wpAny_bind (wpAny_attempt (D.item i s _ _ hi st fun x h' tk q1 q2 q3 => wpAny_pure (hQ x h' tk q1 q2 q3)))
theorem nextOrEnd_end {it : Addr} {fp : List Addr} {P : Nat → Value → Prop} {St : Nat → Heap → Prop} {Q : Option Value → Shared → Prop} (D : Draws prog w A it fp n P St) (st : St n s.heap)
    (hQ : ∀ h', Heap.ExtBut it s.heap h' → Q none { s with heap := h' }) : wpAny (model prog w) A (Builtin.SmallTypes.nextOrEnd (.ref it)) Q E s := by
  unfold Builtin.SmallTypes.nextOrEnd
  refine wpAny_bind (wpAny_attempt (D.done s _ _ st fun h' e hk he => ?_))
  obtain ⟨o, ho, hc⟩ := he
  refine wpAny_bind (wpAny_isInstance (T := "StopIteration") (b := true) ⟨o, ho, hc⟩ isSubtype_stop ?_)
  exact wpAny_pure (hQ h' hk)
theorem stop_raised {α : Type} {Q : α → Shared → Prop} (hh : A.handled = none) (hE : ∀ h' e, (∀ b o, s.heap.get? b = some o → h'.get? b = some o) → (∃ o, h'.get? e = some o ∧ o.cls = .type "StopIteration") → E (.ref e) { s with heap := h' }) :
    wpAny (model prog w) A (Builtin.SmallTypes.stopIteration : Sem α) Q E s := by
  unfold Builtin.SmallTypes.stopIteration
  refine wpAny_bind ?_
  simp only [newExc, newTuple]
  refine wpAny_bind (wpAny_newObj_type ?_ (by size_fits))
  refine wpAny_bind (m := firstArgMember _ _) (wpAny_of_eq (a := Value.none) (by first | rfl | (simp only [firstArgMember]; rfl)) ?_)
  refine wpAny_newObj_type ?_ (by size_fits)
  simp only [raiseNew]
  refine wpAny_bind (wpAny_handled ?_)
  first | rw [show A.in1.handled = none from hh] | rw [hh]
  refine wpAny_bind (wpAny_pure (wpAny_throw ?_))
  exact hE _ _ (fun b o q => Heap.get?_push_of_some _ (Heap.get?_push_of_some _ q)) ⟨_, Heap.get?_push_size _ rfl, rfl⟩
theorem zipS_next_item {Q : Value → Shared → Prop} (S : ZipSep2 z TI TO i1 i2 fp1 fp2) (D1 : Draws prog w A i1 fp1 n P1 St1) (D2 : Draws prog w A i2 fp2 n P2 St2)
    (hz : IsZipS s.heap z TI TO .none) (hTI : IsTupOf2 s.heap TI (.ref i1) (.ref i2)) (hTO : IsTupOf2 s.heap TO a1 a2) (st1 : St1 i s.heap) (st2 : St2 i s.heap) (hi : i < n)
    (hQ : ∀ x1 x2 h' tk, P1 i x1 → P2 i x2 → IsZipS h' z TI TO (rawInt s.heap.objs.size) → IsTupOf2 h' TO x1 x2 → St1 (i + 1) h' → St2 (i + 1) h' → IsTupOf2 h' s.heap.objs.size x1 x2 →
      (∀ c o, c ≠ z → c ≠ TO → c ≠ i1 → c ≠ i2 → s.heap.get? c = some o → h'.get? c = some o) → Q (.ref s.heap.objs.size) { s with heap := h', toks := tk }) :
    wpAny (model prog w) A (Builtin.«zip.__next__» ⟨[.ref z], []⟩) (fun fin s' => ∃ v, fin = .done (.ret v) ∧ Q v s') E s := by
  obtain ⟨h0, g, d, t0, os⟩ := s
  -- the flag, the iterators, the pair that is kept
  show wpAny _ _ (field (.ref z) 2 >>= _) _ _ _
  refine wpAny_bind (wpAny_field hz rfl (x := .bool true) rfl ?_)
  show wpAny _ _ (field (.ref z) 3 >>= _) _ _ _
  refine wpAny_bind (wpAny_field hz rfl (x := .ref TI) rfl (wpAny_bind (wpAny_seqItems hTI rfl ?_)))
  show wpAny _ _ (Builtin.SmallTypes.ownedTupleIsFree (.ref z) >>= _) _ _ _
  refine wpAny_bind ?_
  unfold Builtin.SmallTypes.ownedTupleIsFree
  refine wpAny_bind (wpAny_field hz rfl (x := .none) rfl (wpAny_pure ?_))
  simp only [if_true]
  refine wpAny_bind (wpAny_rule (wpAny_bind (wpAny_field hz rfl (x := .ref TO) rfl ?_)))
  refine wpAny_bind (wpAny_setField_rec hz (by simp) fun h1 z1 s1 => wpAny_bind ?_)
  replace z1 : IsZipS h1 z TI TO .ellipsis := z1
  replace s1 : Heap.SameBut z h0 h1 := s1
  simp only [List.zipIdx_cons, List.zipIdx_nil, List.forIn_cons, List.forIn_nil]
  -- the first
  refine wpAny_bind (wpAny_bind (wpAny_onRaise ?_))
  show wpAny _ _ (Builtin.SmallTypes.nextOrEnd (.ref i1)) _ _ ⟨h1, g, d, t0, os⟩
  refine nextOrEnd_item D1 hi (D1.over st1 s1 S.zf1) fun x1 h2 t2 p1 m1 s2 => ?_
  replace s2 : Heap.SameBut i1 h1 h2 := s2
  have o2 : IsTupOf2 h2 TO a1 a2 := s2.extBut _ _ S.Ti1 (s1.extBut _ _ S.TOz hTO)
  refine wpAny_bind (wpAny_seqItems (s := ⟨h2, g, d, t2, os⟩) o2 rfl ?_)
  refine wpAny_bind (updateSeq_IsTupOf2 (s := ⟨h2, g, d, t2, os⟩) o2 fun h3 o3 s3 => wpAny_bind (wpAny_letGo (wpAny_pure ?_)))
  replace o3 : IsTupOf2 h3 TO x1 a2 := o3
  replace s3 : Heap.SameBut TO h2 h3 := s3
  -- the second
  refine wpAny_bind (wpAny_bind (wpAny_onRaise ?_))
  show wpAny _ _ (Builtin.SmallTypes.nextOrEnd (.ref i2)) _ _ ⟨h3, g, d, t2, os⟩
  refine nextOrEnd_item D2 hi (D2.over (D2.over (D2.over st2 s1 S.zf2) s2 S.sep1_2) s3 S.Tf2) fun x2 h4 t4 p2 m2 s4 => ?_
  replace s4 : Heap.SameBut i2 h3 h4 := s4
  have o4 : IsTupOf2 h4 TO x1 a2 := s4.extBut _ _ S.Ti2 o3
  refine wpAny_bind (wpAny_seqItems (s := ⟨h4, g, d, t4, os⟩) o4 rfl ?_)
  refine wpAny_bind (updateSeq_IsTupOf2 (s := ⟨h4, g, d, t4, os⟩) o4 fun h5 o5 s5 => wpAny_bind (wpAny_letGo (wpAny_pure (wpAny_pure ?_))))
  replace o5 : IsTupOf2 h5 TO x1 x2 := o5
  replace s5 : Heap.SameBut TO h4 h5 := s5
  -- the pair handed out
  refine wpAny_bind (wpAny_seqItems (s := ⟨h5, g, d, t4, os⟩) o5 rfl (wpAny_bind (wpAny_newTuple ?_)))
  have e5 : h5.objs.size = h0.objs.size := by rw [s5.1, s4.1, s3.1, s2.1, s1.1]
  have z5 : IsZipS h5 z TI TO .ellipsis := s5.extBut _ _ S.TOz.symm (s4.extBut _ _ S.zi2 (s3.extBut _ _ S.TOz.symm (s2.extBut _ _ S.zi1 z1)))
  have k5 : ∀ c o, c ≠ z → c ≠ TO → c ≠ i1 → c ≠ i2 → h0.get? c = some o → h5.get? c = some o := fun c o c1 c2 c3 c4 q =>
    s5.extBut _ _ c2 (s4.extBut _ _ c4 (s3.extBut _ _ c2 (s2.extBut _ _ c3 (s1.extBut _ _ c1 q))))
  have f1 : St1 (i + 1) h5 := D1.over (D1.over (D1.over m1 s3 S.Tf1) s4 S.sep2_1) s5 S.Tf1
  have f2 : St2 (i + 1) h5 := D2.over m2 s5 S.Tf2
  have lz : z < h5.objs.size := Heap.lt_size z5
  show wpAny _ _ (Builtin.SmallTypes.ownedTupleHandOut (.ref z) (.ref h5.objs.size) >>= _) _ _ ⟨h5.push { cls := .type "tuple", data := .seq #[x1, x2] }, g, d, t4, os⟩
  refine wpAny_bind ?_
  unfold Builtin.SmallTypes.ownedTupleHandOut
  have z6 : IsZipS (h5.push { cls := .type "tuple", data := .seq #[x1, x2] }) z TI TO .ellipsis := Heap.get?_push_of_some _ z5
  refine wpAny_bind (wpAny_setField_rec z6 (by simp) fun h7 z7 s7 => ?_)
  replace z7 : IsZipS h7 z TI TO (rawInt h5.objs.size) := z7
  refine wpAny_setField_rec z7 (by simp) fun h8 z8 s8 => ?_
  replace z8 : IsZipS h8 z TI TO (rawInt h5.objs.size) := z8
  replace s7 : Heap.SameBut z (h5.push { cls := .type "tuple", data := .seq #[x1, x2] }) h7 := s7
  replace s8 : Heap.SameBut z h7 h8 := s8
  have up : ∀ c o, c ≠ z → h5.get? c = some o → h8.get? c = some o := fun c o c1 q => s8.extBut _ _ c1 (s7.extBut _ _ c1 (Heap.get?_push_of_some _ q))
  have T8 : IsTupOf2 h8 h5.objs.size x1 x2 := s8.extBut _ _ (Nat.ne_of_gt lz) (s7.extBut _ _ (Nat.ne_of_gt lz) (Heap.get?_push_size _ rfl))
  rw [e5] at z8 T8
  refine wpAny_pure ⟨_, rfl, ?_⟩
  show Q (.ref h5.objs.size) ⟨h8, g, d, t4, os⟩
  rw [e5]
  exact hQ x1 x2 h8 t4 p1 p2 z8 (up _ _ S.TOz o5) (D1.frame _ _ _ f1 fun b hb o q => up b o (fun y => S.zf1 (y ▸ hb)) q) (D2.frame _ _ _ f2 fun b hb o q => up b o (fun y => S.zf2 (y ▸ hb)) q) T8
    fun c o c1 c2 c3 c4 q => up c o c1 (k5 c o c1 c2 c3 c4 q)
theorem zipS_next_end {Q : Fin → Shared → Prop} (hh : A.handled = none) (S : ZipSep2 z TI TO i1 i2 fp1 fp2) (D1 : Draws prog w A i1 fp1 n P1 St1) (D2 : Draws prog w A i2 fp2 n P2 St2)
    (hz : IsZipS s.heap z TI TO .none) (hTI : IsTupOf2 s.heap TI (.ref i1) (.ref i2)) (hTO : IsTupOf2 s.heap TO a1 a2) (st1 : St1 n s.heap) (st2 : St2 n s.heap)
    (hE : ∀ h' e, (∀ c o, c ≠ z → c ≠ TO → c ≠ i1 → c ≠ i2 → s.heap.get? c = some o → h'.get? c = some o) → (∃ o, h'.get? e = some o ∧ o.cls = .type "StopIteration") → E (.ref e) { s with heap := h' }) :
    wpAny (model prog w) A (Builtin.«zip.__next__» ⟨[.ref z], []⟩) Q E s := by
  obtain ⟨h0, g, d, t0, os⟩ := s
  show wpAny _ _ (field (.ref z) 2 >>= _) _ _ _
  refine wpAny_bind (wpAny_field hz rfl (x := .bool true) rfl ?_)
  show wpAny _ _ (field (.ref z) 3 >>= _) _ _ _
  refine wpAny_bind (wpAny_field hz rfl (x := .ref TI) rfl (wpAny_bind (wpAny_seqItems hTI rfl ?_)))
  show wpAny _ _ (Builtin.SmallTypes.ownedTupleIsFree (.ref z) >>= _) _ _ _
  refine wpAny_bind ?_
  unfold Builtin.SmallTypes.ownedTupleIsFree
  refine wpAny_bind (wpAny_field hz rfl (x := .none) rfl (wpAny_pure ?_))
  simp only [if_true]
  refine wpAny_bind (wpAny_rule (wpAny_bind (wpAny_field hz rfl (x := .ref TO) rfl ?_)))
  refine wpAny_bind (wpAny_setField_rec hz (by simp) fun h1 z1 s1 => wpAny_bind ?_)
  replace z1 : IsZipS h1 z TI TO .ellipsis := z1
  replace s1 : Heap.SameBut z h0 h1 := s1
  simp only [List.zipIdx_cons, List.zipIdx_nil, List.forIn_cons, List.forIn_nil]
  refine wpAny_bind (wpAny_bind (wpAny_onRaise ?_))
  show wpAny _ _ (Builtin.SmallTypes.nextOrEnd (.ref i1)) _ _ ⟨h1, g, d, t0, os⟩
  refine nextOrEnd_end (s := ⟨h1, g, d, t0, os⟩) D1 (D1.over st1 s1 S.zf1) fun h2 s2 => ?_
  replace s2 : Heap.ExtBut i1 h1 h2 := s2
  have z2 : IsZipS h2 z TI TO .ellipsis := s2 _ _ S.zi1 z1
  refine wpAny_bind (wpAny_setField_rec (s := ⟨h2, g, d, t0, os⟩) z2 (by simp) fun h3 _ s3 => ?_)
  replace s3 : Heap.SameBut z h2 h3 := s3
  have q2 : St2 n h3 := D2.over (D2.frame _ _ _ (D2.over st2 s1 S.zf2) fun b hb o q => s2 b o (fun y => S.sep1_2 (y ▸ hb)) q) s3 S.zf2
  -- the others are looked at: both have ended
  refine wpAny_bind ?_
  show wpAny _ _ (forIn (([Value.ref i2] : List Value).zipIdx 1) PUnit.unit _ >>= _) _ _ _
  simp only [List.zipIdx_cons, List.zipIdx_nil, List.forIn_cons, List.forIn_nil]
  refine wpAny_bind (wpAny_bind (wpAny_bind (nextOrEnd_end (s := ⟨h3, g, d, t0, os⟩) D2 q2 fun h4 s4 => ?_)))
  replace s4 : Heap.ExtBut i2 h3 h4 := s4
  rw [if_neg (show ¬ ((none : Option Value).isSome = true) from Bool.false_ne_true)]
  refine wpAny_pure (wpAny_pure (wpAny_bind (wpAny_rule (stop_raised hh fun h5 e s5 he => ?_))))
  exact hE h5 e (fun c o c1 c2 c3 c4 q => s5 c o (s4 c o c4 (s3.extBut c o c1 (s2 c o c3 (s1.extBut c o c1 q))))) he
theorem pyNext_zipS_item {Q : Option Value → Shared → Prop} (S : ZipSep2 z TI TO i1 i2 fp1 fp2) (D1 : Draws prog w A.in1 i1 fp1 n P1 St1) (D2 : Draws prog w A.in1 i2 fp2 n P2 St2)
    (hz : IsZipS s.heap z TI TO .none) (hTI : IsTupOf2 s.heap TI (.ref i1) (.ref i2)) (hTO : IsTupOf2 s.heap TO a1 a2) (st1 : St1 i s.heap) (st2 : St2 i s.heap) (hi : i < n)
    (hQ : ∀ x1 x2 h' tk, P1 i x1 → P2 i x2 → IsZipS h' z TI TO (rawInt s.heap.objs.size) → IsTupOf2 h' TO x1 x2 → St1 (i + 1) h' → St2 (i + 1) h' → IsTupOf2 h' s.heap.objs.size x1 x2 →
      (∀ c o, c ≠ z → c ≠ TO → c ≠ i1 → c ≠ i2 → s.heap.get? c = some o → h'.get? c = some o) → Q (some (.ref s.heap.objs.size)) { s with heap := h', toks := tk }) : wpAny (model prog w) A (pyNext (.ref z)) Q E s := by
  have hT : s.TypeIs (.ref z) "zip" := ⟨_, hz, rfl⟩
  unfold pyNext
  refine wpAny_bind (wpAny_attempt (wpAny_callSpecial?_slot (name := Str.ofString "__next__") hT F.slot_zip_next (wpAny_call_entry F.slot_zip_next hT F.entry_zip_next ?_ (F.args_zip_next_1 _))))
  exact zipS_next_item S D1 D2 hz hTI hTO st1 st2 hi fun x1 x2 h' tk b1 b2 b3 b4 b5 b6 b7 b8 => wpAny_pure (hQ x1 x2 h' tk b1 b2 b3 b4 b5 b6 b7 b8)
theorem pyNext_zipS_end {Q : Option Value → Shared → Prop} (hh : A.handled = none) (S : ZipSep2 z TI TO i1 i2 fp1 fp2) (D1 : Draws prog w A.in1 i1 fp1 n P1 St1) (D2 : Draws prog w A.in1 i2 fp2 n P2 St2)
    (hz : IsZipS s.heap z TI TO .none) (hTI : IsTupOf2 s.heap TI (.ref i1) (.ref i2)) (hTO : IsTupOf2 s.heap TO a1 a2) (st1 : St1 n s.heap) (st2 : St2 n s.heap)
    (hQ : ∀ h', (∀ c o, c ≠ z → c ≠ TO → c ≠ i1 → c ≠ i2 → s.heap.get? c = some o → h'.get? c = some o) → Q none { s with heap := h' }) : wpAny (model prog w) A (pyNext (.ref z)) Q E s := by
  have hT : s.TypeIs (.ref z) "zip" := ⟨_, hz, rfl⟩
  unfold pyNext
  refine wpAny_bind (wpAny_attempt (wpAny_callSpecial?_slot (name := Str.ofString "__next__") hT F.slot_zip_next (wpAny_call_entry F.slot_zip_next hT F.entry_zip_next ?_ (F.args_zip_next_1 _))))
  refine zipS_next_end hh S D1 D2 hz hTI hTO st1 st2 fun h' e hk he => ?_
  obtain ⟨o, ho, hc⟩ := he
  exact wpAny_bind (wpAny_isInstance (T := "StopIteration") (b := true) ⟨o, ho, hc⟩ isSubtype_stop (wpAny_pure (hQ _ hk)))
theorem letGo_zipS {elts : List Expr} {x1} {pos : Pos} {T : Addr} {Q : Unit → Shared → Prop} (hz : IsZipS s.heap z TI TO (rawInt T))
    (hQ : ∀ h', IsZipS h' z TI TO .none → Heap.SameBut z s.heap h' → Q () { s with heap := h' }) : wpAny (model prog w) A (letOwnedTupleGo (.Tuple elts x1 pos) (.ref z) (.ref T)) Q E s := by
  unfold letOwnedTupleGo
  refine wpAny_bind (wpAny_load hz ?_)
  show wpAny _ _ (if (["enumerate", "zip", "dict_itemiterator", "dict_reverseitemiterator", "odict_iterator", "itertools.zip_longest", "itertools.pairwise"].contains "zip" &&
      (#[rawInt T, .bool false, .bool true, .ref TI, .ref TO] : Array Value)[0]? == some (rawInt T)) = true then _ else _) Q E s
  rw [if_pos (by simp)]
  refine wpAny_bind (wpAny_rule ?_)
  show wpAny _ _ (setField (.ref z) 0 .none) Q E s
  exact wpAny_setField_rec hz (by simp) fun h' q1 q2 => hQ h' q1 q2
theorem pyIter_zipS {f0 : Value} {Q : Value → Shared → Prop} (hz : IsZipS s.heap z TI TO f0) (h : Q (.ref z) s) : wpAny (model prog w) A (pyIter (.ref z)) Q E s := by
  have hT : s.TypeIs (.ref z) "zip" := ⟨_, hz, rfl⟩
  refine wpAny_pyIter_slot hT F.slot_zip_iter (wpAny_call_entry F.slot_zip_iter hT F.entry_zip_iter ?_ (F.args_zip_iter_1 _))
  show wpAny _ _ (ret (.ref z)) _ _ s
  exact wpAny_pure ⟨_, rfl, "zip", _, hT, F.slot_zip_next.lookup, h⟩
end
/-! ### zip(..) begins -/
theorem typeCall_zipS (a b : Value) : checkTypeCall "zip" ⟨[a, b], [(Str.ofString "strict", .bool true)]⟩ = pure () := by kernel_rfl
theorem newCall_zipS (a b : Value) : checkBuiltinCall "zip.__new__" ⟨[.type "zip", a, b], [(Str.ofString "strict", .bool true)]⟩ = pure () := by kernel_rfl
theorem args_zipS (obj a b : Value) : argsOk "object.__init__" ⟨[obj, a, b], [(Str.ofString "strict", .bool true)]⟩ := by
  unfold argsOk
  kernel_rfl
abbrev zsT (h : Heap) (o1 o2 : Obj) : Heap := ((h.push o1).push o2).push { cls := .type "tuple", data := .seq #[.ref h.objs.size, .ref (h.push o1).objs.size] }
abbrev zsO (h : Heap) (o1 o2 : Obj) : Heap := (zsT h o1 o2).push { cls := .type "tuple", data := .seq #[.none, .none] }
abbrev zsZ (h : Heap) (o1 o2 : Obj) : Heap := (zsO h o1 o2).push { cls := .type "zip", data := .fields #[.none, .bool false, .bool true, .ref ((h.push o1).push o2).objs.size, .ref (zsT h o1 o2).objs.size] }
theorem meets_zipS {v1 v2 : Value} {o1 o2 : Obj} {H1 H2 : Heap → Prop} (B1 : Begins v1 o1 H1) (B2 : Begins v2 o2 H2) :
    Meets (Builtin.«zip.__new__» ⟨[.type "zip", v1, v2], [(Str.ofString "strict", .bool true)]⟩) (fun _ R s => (H1 s.heap ∧ H2 s.heap) ∧ R (.ok (.ret (.ref (zsO s.heap o1 o2).objs.size))) { s with heap := zsZ s.heap o1 o2 }) :=
  .of_wp fun prog w A R s h => by
    obtain ⟨hp, g, d, tk, os⟩ := s
    obtain ⟨⟨h1, h2⟩, h⟩ := h
    have hsub := sub_zip
    have e1 : (Str.ofString "strict" == ("strict" : Str)) = true := by decide +kernel
    have e2 : (Str.ofString "strict" != ("strict" : Str)) = false := by decide +kernel
    have q1 : ∀ {A' : Around} {E : Value → Shared → Prop} {Q : Value → Shared → Prop}, Q (.ref hp.objs.size) ⟨(hp.push o1), g, d, tk, os⟩ → wpAny (model prog w) A' (pyIter v1) Q E ⟨hp, g, d, tk, os⟩ :=
      fun q => B1.iter prog w _ _ ⟨hp, g, d, tk, os⟩ _ h1 q
    have q2 : ∀ {A' : Around} {E : Value → Shared → Prop} {Q : Value → Shared → Prop}, Q (.ref (hp.push o1).objs.size) ⟨((hp.push o1).push o2), g, d, tk, os⟩ → wpAny (model prog w) A' (pyIter v2) Q E ⟨(hp.push o1), g, d, tk, os⟩ :=
      fun q => B2.iter prog w _ _ ⟨(hp.push o1), g, d, tk, os⟩ _ (B2.keeps _ _ h2 fun b o' e => (Heap.get?_push_of_some _ e)) q
    wp_walk using q1, q2
    exact ⟨_, rfl, h⟩
end Lp
set_option Elab.async false
set_option linter.all false
set_option maxRecDepth 100000
set_option maxHeartbeats 4000000
namespace Lp
open PySem PySem.Spec PyProof.Rows L2
section
variable {prog : Program} {w : World} {A : Around} {E : Value → Shared → Prop} {s : Shared}
theorem zipS_begins {v1 v2 : Value} {o1 o2 : Obj} {H1 H2 : Heap → Prop} {Q : Value → Shared → Prop} (B1 : Begins v1 o1 H1) (B2 : Begins v2 o2 H2) (h1 : H1 s.heap) (h2 : H2 s.heap)
    (h : ∀ h', IsZipS h' (s.heap.objs.size + 4) (s.heap.objs.size + 2) (s.heap.objs.size + 3) .none → IsTupOf2 h' (s.heap.objs.size + 2) (.ref s.heap.objs.size) (.ref (s.heap.objs.size + 1)) →
      IsTupOf2 h' (s.heap.objs.size + 3) .none .none → h'.get? s.heap.objs.size = some o1 → h'.get? (s.heap.objs.size + 1) = some o2 →
      (∀ c o, s.heap.get? c = some o → h'.get? c = some o) → Q (.ref (s.heap.objs.size + 4)) { s with heap := h' }) :
    wpAny (model prog w) A (call (.type "zip") [v1, v2] [(Str.ofString "strict", .bool true)]) Q E s := by
  refine callType_newKw F.called_zip (by decide) (typeCall_zipS _ _) (newCall_zipS _ _) (fun obj => args_zipS obj _ _) F.entry_zip_new (meets_zipS B1 B2) ⟨⟨h1, h2⟩, ?_⟩
  have n1 : (s.heap.push o1).objs.size = s.heap.objs.size + 1 := Heap.size_push ..
  have n2 : ((s.heap.push o1).push o2).objs.size = s.heap.objs.size + 2 := by rw [Heap.size_push, n1]
  have n3 : (zsT s.heap o1 o2).objs.size = s.heap.objs.size + 3 := by rw [Heap.size_push, n2]
  have n4 : (zsO s.heap o1 o2).objs.size = s.heap.objs.size + 4 := by rw [Heap.size_push, n3]
  have gZ : (zsZ s.heap o1 o2).get? (zsO s.heap o1 o2).objs.size = some { cls := .type "zip", data := .fields #[.none, .bool false, .bool true, .ref ((s.heap.push o1).push o2).objs.size, .ref (zsT s.heap o1 o2).objs.size] } := Heap.get?_push_size _ rfl
  have gO : (zsZ s.heap o1 o2).get? (zsT s.heap o1 o2).objs.size = some { cls := .type "tuple", data := .seq #[.none, .none] } := Heap.get?_push_of_some _ (Heap.get?_push_size _ rfl)
  have gT : (zsZ s.heap o1 o2).get? ((s.heap.push o1).push o2).objs.size = some { cls := .type "tuple", data := .seq #[.ref s.heap.objs.size, .ref (s.heap.push o1).objs.size] } := Heap.get?_push_of_some _ (Heap.get?_push_of_some _ (Heap.get?_push_size _ rfl))
  have g1 : (zsZ s.heap o1 o2).get? s.heap.objs.size = some o1 := Heap.get?_push_of_some _ (Heap.get?_push_of_some _ (Heap.get?_push_of_some _ (Heap.get?_push_of_some _ (Heap.get?_push_size _ B1.free))))
  have g2 : (zsZ s.heap o1 o2).get? (s.heap.push o1).objs.size = some o2 := Heap.get?_push_of_some _ (Heap.get?_push_of_some _ (Heap.get?_push_of_some _ (Heap.get?_push_size _ B2.free)))
  rw [n4, n3, n2] at gZ
  rw [n3] at gO
  rw [n2, n1] at gT
  rw [n1] at g2
  show _ ∧ _
  rw [n4]
  exact ⟨⟨_, gZ, rfl⟩, h _ gZ gT gO g1 g2 fun c o e => Heap.get?_push_of_some _ (Heap.get?_push_of_some _ (Heap.get?_push_of_some _ (Heap.get?_push_of_some _ (Heap.get?_push_of_some _ e))))⟩
end
/-- an iterator over a list (true) or a tuple (false) -/
def ItA (m : Bool) (h : Heap) (it a : Addr) (i : Nat) : Prop := if m = true then h.IsListIter it a i else h.IsTupleIter it a i
def SqH (m : Bool) (h : Heap) (a : Addr) (its : List Value) : Prop := if m = true then h.IsList a its.toArray else h.IsTuple a its.toArray
theorem drawsA {prog : Program} {w : World} {A : Around} (m : Bool) (hh : A.handled = none) (it a : Addr) (hne : a ≠ it) (its : List Value) :
    Draws prog w A it [it, a] its.length (fun i v => its[i]? = some v) (fun i h => ItA m h it a i ∧ SqH m h a its) := by
  cases m with
  | true =>
    have D := Draws.list (prog := prog) (w := w) (A := A) hh it a hne its.toArray
    simpa [ItA, SqH] using D
  | false =>
    have D := Draws.tuple (prog := prog) (w := w) (A := A) hh it a hne its.toArray
    simpa [ItA, SqH] using D
theorem ItA.at {m : Bool} {h h' : Heap} {it a : Addr} {i : Nat} (x : ItA m h it a i) (k : ∀ o, h.get? it = some o → h'.get? it = some o) : ItA m h' it a i := by
  cases m with
  | true => exact Heap.IsListIter.at (show h.IsListIter it a i from x) fun o e => k o e
  | false => exact Heap.IsTupleIter.at (show h.IsTupleIter it a i from x) fun o e => k o e
theorem ItA.obj {m : Bool} {h : Heap} {it a : Addr} {i : Nat} (x : ItA m h it a i) : ∃ o, h.get? it = some o ∧ ∀ v, o.data ≠ .cell v := by
  cases m with
  | true =>
    obtain ⟨o, ho, _, hd⟩ := (show h.IsListIter it a i from x)
    exact ⟨o, ho, fun v q => by rw [hd] at q; cases q⟩
  | false =>
    obtain ⟨o, ho, _, hd⟩ := (show h.IsTupleIter it a i from x)
    exact ⟨o, ho, fun v q => by rw [hd] at q; cases q⟩
theorem seqA_at {X : Cx} {pins : List (Addr × Obj)} {σ : L2.St} {H : Hp} {s : Shared} {m : Bool} {a : Addr} {xs : List V} (I : Inv X pins σ H s) (h : SqA m X.K H a xs) : ∃ its, Vals xs its ∧ SqH m s.heap a its ∧ xs.length ≤ sizeLine ∧ a < s.heap.objs.size := by
  cases m with
  | true =>
    obtain ⟨its, rv, p, z⟩ := I.list (show SqL X.K H a xs from h)
    exact ⟨its, rv, p.isList, z, p.lt⟩
  | false =>
    obtain ⟨its, rv, p, z⟩ := I.tuple (show SqT X.K H a xs from h)
    exact ⟨its, rv, p, z, p.lt⟩
/-- a list or tuple at a, and a list at b, strictly -/
def ItzS (K : PySem.W.Frag) (m : Bool) (a b : Addr) (xs ys : List V) : It :=
  ⟨fun i H => SqA m K H a xs ∧ SqL K H b ys ∧ i < xs.length ∧ i < ys.length, fun i H v H' => ∃ T x y, v = .ref T ∧ H T = none ∧ H' = upd H T (.tup [x, y]) ∧ xs[i]? = some x ∧ ys[i]? = some y,
    fun i H => SqA m K H a xs ∧ SqL K H b ys ∧ i = xs.length ∧ xs.length = ys.length⟩
theorem turn_zipS {P : Program} {w : World} {K : PySem.W.Frag} {elts : List Expr} {kk : Nat} {tpos : Pos} {m : Bool} {a b z TI TO i1 i2 : Addr} {xs ys : List V} (S : ZipSep2 z TI TO i1 i2 [i1, a] [i2, b]) (na : a ≠ i1) (nb : b ≠ i2) (hlen : xs.length = ys.length) :
    Turn P w K (.Tuple elts kk tpos) (ItzS K m a b xs ys) [z, TI, TO, i1, i2] z
      (fun i h => IsZipS h z TI TO .none ∧ IsTupOf2 h TI (.ref i1) (.ref i2) ∧ (∃ x y, IsTupOf2 h TO x y) ∧ ItA m h i1 a i ∧ ItA true h i2 b i) where
  mem := List.mem_cons_self
  obj := fun i h st c hc => by
    obtain ⟨q1, q2, ⟨x, y, q3⟩, q4, q5⟩ := st
    have e : c = z ∨ c = TI ∨ c = TO ∨ c = i1 ∨ c = i2 := by simpa using hc
    rcases e with e | e | e | e | e
    · rw [e]
      exact ⟨_, q1, fun v q => nomatch q⟩
    · rw [e]
      exact ⟨_, q2, fun v q => nomatch q⟩
    · rw [e]
      exact ⟨_, q3, fun v q => nomatch q⟩
    · rw [e]
      exact q4.obj
    · rw [e]
      exact q5.obj
  keep := fun i h h' st k => by
    obtain ⟨q1, q2, ⟨x, y, q3⟩, q4, q5⟩ := st
    exact ⟨k z (by simp) _ q1, k TI (by simp) _ q2, ⟨x, y, k TO (by simp) _ q3⟩, q4.at fun o q => k i1 (by simp) o q, q5.at fun o q => k i2 (by simp) o q⟩
  item := by
    intro X hP hw hK hc i pins s σ H E I hf st hg
    subst hP hw hK
    obtain ⟨q1, q2, ⟨x0, y0, q3⟩, q4, q5⟩ := st
    obtain ⟨ha, hb, hi, hi2⟩ := hg
    obtain ⟨its, rv, p1, _, la⟩ := seqA_at I ha
    obtain ⟨its2, rv2, p2, _, lb⟩ := seqA_at (m := true) I hb
    have l1 := rv.length
    have l2 := rv2.length
    have D1 := drawsA (prog := X.prog) (w := X.w) (A := X.A.in1) m (I.ok.hd hc) i1 a na its
    have D2 := drawsA (prog := X.prog) (w := X.w) (A := X.A.in1) true (I.ok.hd hc) i2 b nb its2
    rw [← l1] at D1
    rw [← l2, ← hlen] at D2
    have lz : z < s.heap.objs.size := Heap.lt_size q1
    refine pyNext_zipS_item S D1 D2 q1 q2 q3 ⟨q4, p1⟩ ⟨q5, p2⟩ hi fun u1 u2 h1 tk b1 b2 z1 o1 m1 m2 t1 k1 => ?_
    refine ⟨_, rfl, letGo_zipS (s := { s with heap := h1, toks := tk }) z1 fun h2 z2 sb => ?_⟩
    have hx : xs[i]? = some xs[i] := List.getElem?_eq_getElem hi
    have hy : ys[i]? = some ys[i] := List.getElem?_eq_getElem hi2
    obtain ⟨w1, e1, r1⟩ := rv.get hx
    obtain ⟨w2, e2, r2⟩ := rv2.get hy
    rw [b1] at e1
    rw [b2] at e2
    cases e1
    cases e2
    have t2 : h2.get? s.heap.objs.size = some { cls := .type "tuple", data := .seq #[u1, u2] } := (sb.2 _ (Nat.ne_of_gt lz)).trans t1
    have new : ObjOk X.prog X.w (upd H s.heap.objs.size (.tup [xs[i], ys[i]])) h2 s.heap.objs.size (.tup [xs[i], ys[i]]) :=
      ⟨(by show 2 ≤ sizeLine; decide), [u1, u2], .cons r1 (.cons r2 .nil), ⟨_, t2, rfl, _, rfl⟩⟩
    have keep : ∀ c o, c ∉ [z, TI, TO, i1, i2] → s.heap.get? c = some o → h2.get? c = some o := fun c o hc q => by
      have c1 : c ≠ z := fun e => hc (by simp [e])
      exact (sb.2 c c1).trans (k1 c o c1 (fun e => hc (by simp [e])) (fun e => hc (by simp [e])) (fun e => hc (by simp [e])) q)
    have I1 : Inv X pins σ (upd H s.heap.objs.size (.tup [xs[i], ys[i]])) { s with heap := h2, toks := tk } := I.turnedNew (ch := [z, TI, TO, i1, i2]) keep hf (Nat.le_refl _) new
    have lTI := Heap.lt_size q2
    have lTO := Heap.lt_size q3
    have li1 : i1 < s.heap.objs.size := by
      obtain ⟨_, y, _⟩ := q4.obj
      exact Heap.lt_size y
    have li2 : i2 < s.heap.objs.size := by
      obtain ⟨_, y, _⟩ := q5.obj
      exact Heap.lt_size y
    refine ⟨.ref s.heap.objs.size, _, I1, rfl, ⟨_, xs[i], ys[i], rfl, I.hok.fresh (Nat.le_refl _), rfl, hx, hy⟩, ⟨z2, ?_, ⟨u1, u2, ?_⟩, ?_, ?_⟩, fun c hcm => ?_⟩
    · exact (sb.2 _ S.TIz).trans (k1 _ _ S.TIz S.TITO S.TIi1 S.TIi2 q2)
    · exact (sb.2 _ S.TOz).trans o1
    · exact m1.1.at fun o q => (sb.2 _ (Ne.symm S.zi1)).trans q
    · exact m2.1.at fun o q => (sb.2 _ (Ne.symm S.zi2)).trans q
    · have lc : c < s.heap.objs.size := by
        have e : c = z ∨ c = TI ∨ c = TO ∨ c = i1 ∨ c = i2 := by simpa using hcm
        rcases e with e | e | e | e | e <;> (rw [e]; assumption)
      rw [upd_ne (Nat.ne_of_lt lc)]
      exact (hf c hcm).1
  done := by
    intro X hP hw hK hc i pins s σ H E I hf st hg
    subst hP hw hK
    obtain ⟨q1, q2, ⟨x0, y0, q3⟩, q4, q5⟩ := st
    obtain ⟨ha, hb, hi, _⟩ := hg
    subst hi
    obtain ⟨its, rv, p1, _, la⟩ := seqA_at I ha
    obtain ⟨its2, rv2, p2, _, lb⟩ := seqA_at (m := true) I hb
    have l1 := rv.length
    have l2 := rv2.length
    have D1 := drawsA (prog := X.prog) (w := X.w) (A := X.A.in1) m (I.ok.hd hc) i1 a na its
    have D2 := drawsA (prog := X.prog) (w := X.w) (A := X.A.in1) true (I.ok.hd hc) i2 b nb its2
    rw [← l1] at D1
    rw [← l2, ← hlen] at D2
    refine pyNext_zipS_end (I.ok.hd hc) S D1 D2 q1 q2 q3 ⟨q4, p1⟩ ⟨q5, p2⟩ fun h' k => ⟨rfl, I.turnedL (t' := s.toks) (ch := [z, TI, TO, i1, i2]) (fun c o hc' q => ?_) hf⟩
    exact k c o (fun e => hc' (by simp [e])) (fun e => hc' (by simp [e])) (fun e => hc' (by simp [e])) (fun e => hc' (by simp [e])) q
  self := fun A i s Q E st h => pyIter_zipS st.1 h
theorem walk_zipS {K : PySem.W.Frag} {m : Bool} {a b : Addr} {xs ys : List V} (hlen : xs.length = ys.length) : Walk (ItzS K m a b xs ys) xs.length (fun H => SqA m K H a xs ∧ SqL K H b ys) (YPair (fun i => xs[i]?) (fun i => ys[i]?)) :=
  ⟨fun i _ hi q => ⟨q.1, q.2, hi, hlen ▸ hi⟩, fun _ q => ⟨q.1, q.2, rfl, hlen⟩, fun _ _ _ _ _ _ y => y⟩
section
variable {X : Cx} {e e2 : Expr} {ta : TA} {p pos tpos kpos kp2 : Pos} {elts : List Expr} {kk kj : Nat}
/-- zip(x, y, strict=True) -/
def iZipS (K : PySem.W.Frag) (ta : TA) : TI := fun σ H R => ta σ H fun vs H1 => ∃ (m : Bool) (a b : Addr) (xs ys : List V), vs = [.ref a, .ref b] ∧ SqA m K H1 a xs ∧ SqL K H1 b ys ∧ xs.length = ys.length ∧
  ∀ J, Walk J xs.length (fun H => SqA m K H a xs ∧ SqL K H b ys) (YPair (fun i => xs[i]?) (fun i => ys[i]?)) → R J H1
theorem callWith_typeK {M : Model} {A : Around} {E : Value → Shared → Prop} {s : Shared} {env : Env} {pos : Pos} {T : String} {e : Expr} {rest : List Expr} {kws : List Keyword} {Q : Value → Shared → Prop}
    (h : wpAny M A (spliced (backTo pos (starEach (e :: rest) env))) (fun vs s₁ => wpAny M A (evalAll ((backToKw pos (keywordEach kws env)).map (·.2)))
      (fun ks s₂ => wpAny M A (call (.type T) vs (((backToKw pos (keywordEach kws env)).filterMap (·.1)).zip ks)) Q E s₂) E s₁) E s)
    (he : backTo pos (starEach (e :: rest) env) = (false, eval e env) :: backTo pos (starEach rest env)) (hplain : (backTo pos (starEach (e :: rest) env)).any (·.1) = false)
    (hall : (backToKw pos (keywordEach kws env)).all (·.1.isSome) = true) (hkw : (backToKw pos (keywordEach kws env)).any (·.1.isNone) = false) :
    wpAny M A (callWith pos (.type T) [] (backTo pos (starEach (e :: rest) env)) (backToKw pos (keywordEach kws env))) Q E s := by
  have ev : wpAny M A (evalArgs (.type T) true (backTo pos (starEach (e :: rest) env)) (backToKw pos (keywordEach kws env))) (fun a s₁ => wpAny M A (call (.type T) ([] ++ a.pos) a.kw) Q E s₁) E s := by
    rw [he] at h ⊢
    exact evalArgs_kwB hall h
  unfold callWith
  refine wpAny_bind (wpAny_holding (wpAny_mono ev (fun a s₁ q => wpAny_bind (wpAny_standAt ?_)) fun _ _ x => x))
  simp only [hplain, hkw, Bool.or_false]
  refine wpAny_bind (wpAny_pure ?_)
  exact wpAny_bind (wpAny_mono q (fun r s₂ hr => wpAny_bind (wpAny_holding (wpAny_point (wpAny_pure hr)))) fun _ _ x => x)
theorem pi_zipS (hg : Gl X "zip") (hm : X.mg "zip" = none) (ha : PA X [e, e2] ta)
    (he : backTo pos (starEach [e, e2] X.env) = (false, eval e X.env) :: backTo pos (starEach [e2] X.env) := by rfl) (hpl : (backTo pos (starEach [e, e2] X.env)).any (·.1) = false := by rfl)
    (hall : (backToKw pos (keywordEach [⟨some "strict", .Constant (.bool true) kj kp2, kpos⟩] X.env)).all (·.1.isSome) = true := by rfl) (hkw : (backToKw pos (keywordEach [⟨some "strict", .Constant (.bool true) kj kp2, kpos⟩] X.env)).any (·.1.isNone) = false := by rfl)
    (hks : (backToKw pos (keywordEach [⟨some "strict", .Constant (.bool true) kj kp2, kpos⟩] X.env)).filterMap (·.1) = [Str.ofString "strict"] := by rfl) :
    PI X (.Tuple elts kk tpos) (.Call (.Name "zip" p) [e, e2] [⟨some "strict", .Constant (.bool true) kj kp2, kpos⟩] pos) (iZipS X.K ta) := by
  refine ⟨fun pins s σ H R I h => ?_⟩
  refine wpAny_Call_Name_kw (ld_blt I hg hm PyProof.Rows.boot_zip (callWith_typeK (thn (ha.run pos pins s σ H _ I h) fun us s1 ⟨vs, H1, I1, r1, m, a, b, xs, ys, ev, hq, hq2, hlen, q⟩ => ?_) he hpl hall hkw))
  refine thn ((pk_cons (X := X) (kpos := kpos) (nm := some "strict") (pe_bl (b := true) (j := kj) (pos := kp2)) pk_nil).run pos pins s1 σ H1 (fun zs H2 => zs = [.bl true] ∧ H2 = H1) I1 ⟨rfl, rfl⟩) fun ks s2 ⟨zs, H2, I2, r2, ez, eH⟩ => ?_
  subst ez eH ev
  obtain ⟨u, rfl, ru⟩ := vals1 r2
  obtain rfl : u = Value.bool true := ru
  obtain ⟨u1, u2, rfl, ru1, ru2⟩ := vals2 r1
  obtain rfl : u1 = Value.ref a := ru1
  obtain rfl : u2 = Value.ref b := ru2
  rw [hks]
  show wpAny _ _ (call (.type "zip") [.ref a, .ref b] [(Str.ofString "strict", .bool true)]) _ _ _
  obtain ⟨its, rv, p1, _, la⟩ := seqA_at I2 hq
  obtain ⟨its2, rv2, p2, _, lb⟩ := seqA_at (m := true) I2 hq2
  have fresh5 : ∀ c, c ∈ [s2.heap.objs.size + 4, s2.heap.objs.size + 2, s2.heap.objs.size + 3, s2.heap.objs.size, s2.heap.objs.size + 1] → FpOk X pins H2 c := fun c hcm => by
    have hle : s2.heap.objs.size ≤ c := by
      have e' : c = s2.heap.objs.size + 4 ∨ c = s2.heap.objs.size + 2 ∨ c = s2.heap.objs.size + 3 ∨ c = s2.heap.objs.size ∨ c = s2.heap.objs.size + 1 := by simpa using hcm
      rcases e' with z | z | z | z | z <;> (rw [z]; first | exact Nat.le_add_right _ _ | exact Nat.le_refl _)
    exact I2.fpOk hle (I2.hok.fresh hle)
  have S := zip_sep2 (N := s2.heap.objs.size) (fp1 := [a]) (fp2 := [b]) (fun c hc => by rw [List.mem_singleton.mp hc]; exact la) (fun c hc => by rw [List.mem_singleton.mp hc]; exact lb)
  have na : a ≠ s2.heap.objs.size := Nat.ne_of_lt la
  have nb : b ≠ s2.heap.objs.size + 1 := Nat.ne_of_lt (Nat.lt_succ_of_lt lb)
  cases m with
  | true =>
    refine zipS_begins (begins_list a its.toArray) (begins_list b its2.toArray) (show s2.heap.IsList a its.toArray from p1) (show s2.heap.IsList b its2.toArray from p2) fun h' z1 t1 t2 g1 g2 hk => pyIter_zipS z1 ?_
    exact ⟨s2.heap.objs.size + 4, _, _, _, H2, rfl, I2.kept (t' := s2.toks) hk, turn_zipS (m := true) S na nb hlen, ⟨z1, t1, ⟨_, _, t2⟩, ⟨_, g1, rfl, rfl⟩, ⟨_, g2, rfl, rfl⟩⟩, fresh5, q _ (walk_zipS hlen)⟩
  | false =>
    refine zipS_begins (begins_tuple a its.toArray) (begins_list b its2.toArray) (show s2.heap.IsTuple a its.toArray from p1) (show s2.heap.IsList b its2.toArray from p2) fun h' z1 t1 t2 g1 g2 hk => pyIter_zipS z1 ?_
    exact ⟨s2.heap.objs.size + 4, _, _, _, H2, rfl, I2.kept (t' := s2.toks) hk, turn_zipS (m := false) S na nb hlen, ⟨z1, t1, ⟨_, _, t2⟩, ⟨_, g1, rfl, rfl⟩, ⟨_, g2, rfl, rfl⟩⟩, fresh5, q _ (walk_zipS hlen)⟩
end
end Lp
set_option Elab.async false
set_option linter.all false
set_option maxRecDepth 100000
set_option maxHeartbeats 4000000
/-! set(a list of ints). -/
namespace Lp
open PySem PySem.Spec PyProof.Rows L2
/-- an empty set as set(..) makes it, at the heap's end -/
abbrev set0 (w : World) : Obj := { cls := .type "set", dict := none, data := .set #[] 0 (.fresh 0 0 (!w.params.followText "set-order")) }
section
variable {P : Program} {w : World} {A : Around} {E : Value → Shared → Prop} {s : Shared}
/-- the set's own part: it takes the list's members -/
theorem set_init_ints {l S : Addr} {items : Array Value} (ns : List Int) {Q : Fin → Shared → Prop} (hh : A.handled = none) (hS : s.heap.get? S = some (set0 w)) (hl : s.heap.IsList l items) (hi : IntsAre items.toList ns) (hb : ns.length + 1 < scanBound)
    (hq : ∀ (h' : Heap) (tk c : Nat), SetR w h' S (fun j => decide (j ∈ ns)) c → c ≤ ns.length → (∀ b o, b ≠ S → s.heap.get? b = some o → h'.get? b = some o) → Q (.done (.ret .none)) { s with heap := h', toks := tk }) :
    wpAny (model P w) A (Builtin.«set.__init__» ⟨[.ref S, .ref l], []⟩) Q E s := by
  have hz : items.size = ns.length := by
    have q := IntsAre.length hi
    rw [Array.length_toList] at q
    exact q
  obtain ⟨ol, hol, hcl, nl, hdl⟩ := hl
  obtain ⟨oc, od, oa, osl⟩ := ol
  simp only at hcl hdl
  subst hcl
  subst hdl
  have f1 := F.sub_list_set
  have f2 := F.sub_list_frozenset
  have f3 : (Value.type "list" == Value.type "dict") = false := by decide
  have hL : s.heap.IsList l items := ⟨_, hol, rfl, nl, rfl⟩
  have hT : s.TypeIs (.ref S) "set" := ⟨_, hS, rfl⟩
  obtain ⟨hp, g, d, tk, os⟩ := s
  unfold Builtin.«set.__init__» noKeywords Builtin.Frozenset.updateFrom
  generalize hPI : pyIter = PI
  wp_walk
  subst hPI
  refine wpAny_pyIter_list hL (wpAny_bind (wpAny_runValue ?_))
  have ll : l < hp.objs.size := Heap.lt_size hol
  have lS : S < hp.objs.size := Heap.lt_size hS
  have nSl : S ≠ l := fun e => by
    have q : hp.get? S = some (set0 w) := hS
    rw [e] at q
    have q2 : hp.get? l = some { cls := Value.type "list", dict := od, data := Data.seq items nl, slots := osl } := hol
    rw [q2] at q
    have q3 : Value.type "list" = Value.type "set" := congrArg Obj.cls (Option.some.inj q)
    exact absurd q3 (by decide)
  have hout : S ∉ [hp.objs.size, l] := by
    simp only [List.mem_cons, List.mem_singleton, List.not_mem_nil, or_false, not_or]
    exact ⟨Nat.ne_of_lt lS, nSl⟩
  have hval : ∀ (i : Nat) (v : Value), items[i]? = some v → ∃ k t, ns[i]? = some k ∧ v = .int k t := fun i v hv => by
    have lt : i < ns.length := by
      rw [← hz]
      exact (Array.getElem?_eq_some_iff.mp hv).1
    obtain ⟨t, e⟩ := IntsAre.int_at hi i v (by rw [Array.getElem?_toList]; exact hv)
    refine ⟨ns[i], t, List.getElem?_eq_getElem lt, ?_⟩
    rw [e, List.getD_eq_getElem?_getD, List.getElem?_eq_getElem lt]
    rfl
  refine set_update_ints ((Walks.list (prog := P) (w := w) (A := A.in1) (show A.in1.handled = none from hh) hp.objs.size l (Nat.ne_of_lt ll) items).toS) S hout ns hz hb hval (items.size - 0) 0 _ (by omega) (Nat.zero_le _)
    ?st ?se fun s' c hm hc hR => ?_
  case st => exact ⟨⟨_, Heap.get?_push_size _ rfl, rfl, rfl⟩, hL.push _⟩
  case se => exact ⟨0, Nat.le_refl 0, setR_new_at (show (hp.push { cls := .type "list_iterator", data := .fields #[.ref l, .int 0 0] }).get? S = some (set0 w) from Heap.get?_push_of_some _ hS)⟩
  obtain ⟨h', g', d', t', o'⟩ := s'
  obtain rfl : g' = g := hm.gens
  obtain rfl : d' = d := hm.drawn
  obtain rfl : o' = os := hm.os
  show wpAny _ _ _ _ _ _
  refine wpAny_pure ?_
  show wpAny _ _ (ret Value.none) _ _ _
  refine wpAny_pure (hq h' t' c hR (by rw [← hz]; exact hc) fun b o hb' q => ?_)
  have lb : b < hp.objs.size := Heap.lt_size q
  exact hm.heap b o (by simp only [List.mem_cons, List.mem_singleton, List.not_mem_nil, or_false, not_or]; exact ⟨hb', Nat.ne_of_lt lb⟩) (Heap.get?_push_of_some _ q)
set_option maxHeartbeats 8000000 in
theorem call_set_ints {l : Addr} {items : Array Value} (ns : List Int) {Q : Value → Shared → Prop} (hh : A.handled = none) (hl : s.heap.IsList l items) (hi : IntsAre items.toList ns) (hb : ns.length + 1 < scanBound)
    (hq : ∀ (h' : Heap) (tk c : Nat), SetR w h' s.heap.objs.size (fun j => decide (j ∈ ns)) c → c ≤ ns.length → (∀ b o, s.heap.get? b = some o → h'.get? b = some o) → Q (.ref s.heap.objs.size) { s with heap := h', toks := tk }) :
    wpAny (model P w) A (call (.type "set") [.ref l]) Q E s := by
  obtain ⟨c, tl, hmro⟩ := F.called_set.mro
  have hmade := F.called_set.made
  have hsub := F.called_set.sub
  refine wpAny_call (codeAny_of_tree ?_)
  show wpAny _ _ (callAny (.type "set") _) _ _ _
  refine wpAny_pure ⟨Code.quiet_builtin _ (by decide +kernel), codeAny_builtin F.entry_type_call ?_⟩
  rw [Around.under_plain (weight_type_call_type "set" [.ref l] []) rfl]
  have h1 := F.called_set.notType
  have h2 := F.called_set.canCreate
  have hct := F.typeCall_set_1 (.ref l)
  repeat (any_goals (first | assumption | wp_step))
  refine codeAny_mono (code_set_led1 (.ref l) (E := E) (Q₁ := fun obj s1 => obj = .ref s.heap.objs.size ∧ s1 = { s with heap := s.heap.push (set0 w) }) ⟨rfl, rfl⟩) fun r s1 hr => ?_
  cases r with
  | error e => exact hr
  | ok fl =>
    cases fl with
    | ret obj =>
      obtain ⟨rfl, rfl⟩ := hr
      have hS : (s.heap.push (set0 w)).get? s.heap.objs.size = some (set0 w) := Heap.get?_push_size _ rfl
      have hT : Shared.TypeIs { s with heap := s.heap.push (set0 w) } (.ref s.heap.objs.size) "set" := ⟨_, hS, rfl⟩
      have hli := F.called_set.init.lookup
      have hbi := F.called_set.init.bind (.ref s.heap.objs.size)
      repeat (any_goals (first | assumption | wp_step))
      refine codeAny_mono (codeAny_call_builtin (R := wants (fun r s2 => r = .none ∧ ∃ h' tk c, s2 = { s with heap := h', toks := tk } ∧ SetR w h' s.heap.objs.size (fun j => decide (j ∈ ns)) c ∧ c ≤ ns.length ∧
          (∀ b o, s.heap.get? b = some o → h'.get? b = some o)) E) F.called_set.init.plain F.entry_set_init (check_set_init_1 hT ?_)) fun r2 s2 hr2 => ?_
      · refine set_init_ints (s := { s with heap := s.heap.push (set0 w) }) ns (by simp [hh]) hS (Heap.IsList.push hl _) hi hb fun h' tk c q1 q2 q3 => ⟨rfl, h', tk, c, rfl, q1, q2, fun b o q => ?_⟩
        exact q3 b o (Nat.ne_of_lt (Heap.lt_size q)) (Heap.get?_push_of_some _ q)
      · cases r2 with
        | error e => exact hr2
        | ok fl2 =>
          cases fl2 with
          | ret r =>
            obtain ⟨rfl, h', tk, c, rfl, q1, q2, q3⟩ := hr2
            repeat (any_goals (first | assumption | wp_step))
            exact hq _ _ _ q1 q2 q3
          | _ => exact hr2.elim
    | _ => exact hr.elim
end
section
variable {X : Cx}
/-- set(xs), xs a list of ints -/
def rSetInts (K : PySem.W.Frag) (w : World) : List V → Hp → VK → Prop := fun vs H Q => ∃ (l : Addr) (ns : List Int), vs = [V.ref l] ∧ SqL K H l (ns.map V.int) ∧ ns.length < 60 ∧
  ∀ p c, H p = none → c ≤ ns.length → Q (.ref p) (upd H p (SetO w p (fun j => decide (j ∈ ns)) c))
theorem cr_setInts (hc : X.calm = true) : CallR X (.type "set") (rSetInts X.K X.w) := by
  intro pins s σ H vs us Q I r h
  obtain ⟨l, ns, rfl, hl, hn, q⟩ := h
  obtain ⟨u, rfl, ru⟩ := vals1 r
  obtain rfl : u = Value.ref l := ru
  obtain ⟨its, rv, pl, _⟩ := I.list hl
  refine call_set_ints ns (I.ok.hd hc) pl.isList (by simpa using rv.ints) (by unfold scanBound; omega) fun h' tk c q1 q2 q3 => ?_
  exact ⟨.ref s.heap.objs.size, _, I.laid (t' := tk) q3 (Nat.le_refl _) (setO_new q1), rfl, q _ c (I.hok.fresh (Nat.le_refl _)) q2⟩
end
end Lp
set_option Elab.async false
set_option linter.all false
set_option maxRecDepth 100000
set_option maxHeartbeats 4000000
/-! The program's shapes: size_of, comb, wrong_shape, is_shape, stretches. -/
namespace Lp
open PySem PySem.Spec PyProof.Rows L2 Sh
theorem dpAll_depth : ∀ {ss : List Sh}, (∀ s ∈ ss, s.size ≤ 60) → PyData.depthAll (ss.map Sh.dat) ≤ 60
  | [], _ => by simp [PyData.depthAll]
  | s :: ss, h => by
    have h1 := dpAll_depth (ss := ss) fun t ht => h t (List.mem_cons_of_mem _ ht)
    have h2 := dat_depth s
    have h3 := h s List.mem_cons_self
    simp only [List.map_cons, PyData.depthAll]
    omega
theorem dpAll_lay : ∀ ss : List Sh, PyData.canLayAll0 (ss.map Sh.dat) = true
  | [] => by simp [PyData.canLayAll0]
  | s :: ss => by simp [PyData.canLayAll0, dat_lay s, dpAll_lay ss]
theorem list_shaped {ss : List Sh} (h : ∀ s ∈ ss, s.size ≤ 60) : SeqAt.shaped (.list (ss.map Sh.dat)) = true := by
  have h1 := dpAll_depth h
  have h2 : PyData.depth (.list (ss.map Sh.dat)) ≤ 64 := by
    simp only [PyData.depth]
    omega
  show (PyData.canLay0 (.list (ss.map Sh.dat)) && decide (PyData.depth (.list (ss.map Sh.dat)) ≤ 64)) = true
  rw [Bool.and_eq_true]
  exact ⟨by simp only [PyData.canLay0]; exact dpAll_lay ss, decide_eq_true h2⟩
theorem le_total {ss : List Sh} {s : Sh} (h : s ∈ ss) : s.size ≤ total ss := by
  induction ss with
  | nil => cases h
  | cons t r ih =>
    rw [total_cons]
    rcases List.mem_cons.mp h with e | e
    · rw [e]
      omega
    · have := ih e
      omega
theorem eqv_nil (ss : List Sh) : PyData.eqv (.list (ss.map Sh.dat)) (.list []) = ss.isEmpty := by
  cases ss with
  | nil => simp [PyData.eqv, PyData.eqvAll]
  | cons s r => simp [PyData.eqv, PyData.eqvAll]
theorem eqv_o (s : Sh) : PyData.eqv s.dat (.tuple []) = decide (s = .o) := dat_eqv s .o
theorem ShVs.snoc {H : Hp} : ∀ {ss : List Sh} {vs : List V}, ShVs H ss vs → ss ≠ [] → ∃ ts t ws u, ss = ts ++ [t] ∧ vs = ws ++ [u] ∧ ShVs H ts ws ∧ ShV H t u
  | _, _, .nil, h => absurd rfl h
  | _, _, .cons (l₁ := vs) (l₂ := ss) r t, _ => by
    cases t with
    | nil => exact ⟨[], _, [], _, rfl, rfl, .nil, r⟩
    | cons r2 t2 =>
      obtain ⟨ts, x, ws, u, e1, e2, h1, h2⟩ := ShVs.snoc (.cons r2 t2) (by simp)
      exact ⟨_ :: ts, x, _ :: ws, u, by rw [e1]; rfl, by rw [e2]; rfl, .cons r h1, h2⟩
section
variable {P : Program} {w : World} {K : PySem.W.Frag} {mg : Str → Option Value} {base : Heap}
/-! ### size_of -/
theorem scSizeOf : FnScope ["shape", "found", "rest", "part"] ["shape"] (defScope sSizeOf) := ⟨rfl, rfl, rfl, by decide +kernel, rfl, by decide +kernel, by decide +kernel⟩
def spSizeOf : Sp := fun vs H Q _ => ∃ (v : V) (s : Sh), vs = [v] ∧ ShV H s v ∧ s.size ≤ 60 ∧ ∀ H', Same H H' → Q (.int (s.size : Nat)) H'
theorem ok_size_of {f : Addr} {fd : FuncData} (F : Fun K "size_of" "size_of" sSizeOf f fd) : FnOk P w K mg base CX0 1 f fd ["shape"] spSizeOf := by
  refine F.ok scSizeOf (fun vs H Q E h => ?_) (fun cdv A outer s H vs Q E hr h => ?_)
  · obtain ⟨v, t, rfl, _⟩ := h
    rfl
  obtain ⟨v, t, rfl, hv, hz, q⟩ := h
  refine ⟨_, pss_cons (ps_par (i := 1) (j := 2) rfl scSizeOf.nd rfl rfl (by decide) rfl rfl (pa_cons pe_int (pa_cons (pe_lst (pa_cons (pv 0) pa_nil)) pa_nil)) (by rfl))
    (pss_cons (ps_while PassesOwn.never (pt_cmpR (op_neD hr.units) (pv 2) (pe_lst pa_nil) (nomark _))
      (pss_cons (ps_set (i := 3) scSizeOf.nd rfl (.inl rfl) (pe_bm0 PySem.F.plainAttrs_list PySem.F.slot_list_pop PySem.F.type_list_pop mt_pop (pv 2)))
      (pss_cons (ps_aug (i := 1) scSizeOf.nd rfl (.inl rfl) (pe_ifExp (pt_cmpR (op_eqD hr.units) (pv 3) (pe_tup pa_nil) (nomark _)) pe_int pe_int) ip_add)
      (pss_one (ps_expr (pe_bm PySem.F.plainAttrs_list PySem.F.slot_list_extend PySem.F.type_list_extend mt_extT (pv 2) (pa_cons (pv 3) pa_nil)))))))
    (pss_one (ps_ret (pv 1)))), ?_⟩
  -- found, rest = 0, [shape]
  refine ⟨v, rfl, le_line (by simp), fun p hp => ⟨_, _, rfl, ?_⟩⟩
  -- while rest != []
  refine ⟨fun m σ H3 => ∃ (n : Nat) (ss : List Sh) (us : List V) (y : Option V), σ = [some v, some (.int (n : Nat)), some (.ref p), y] ∧ m = 2 * total ss - ss.length ∧ n + total ss = t.size ∧ Same H H3 ∧ H3 p = some (.lst us) ∧ ShVs H3 ss us,
    ⟨_, 0, [t], [v], none, rfl, rfl, by rw [total_cons, total_nil]; omega, same_new hp, upd_same, .one (hv.same (same_new hp))⟩, ?_⟩
  rintro m σ H3 ⟨n, ss, us, y, rfl, rfl, hn, sm, hl, hs⟩
  have hss : ∀ x ∈ ss, x.size ≤ 60 := fun x hx => by
    have := le_total hx
    omega
  refine ⟨.ref p, rfl, le_line (Nat.zero_le _), fun e he => ?_⟩
  have ne : p ≠ e := ne_of_none hl he
  have hl2 : upd H3 e (.lst []) p = some (.lst us) := by
    rw [upd_ne ne]
    exact hl
  have s2 : Same H3 (upd H3 e (.lst [])) := same_new he
  refine ⟨_, _, dp_list hl2 (dpAll_shapes (hs.same s2)), dp_list (ds := []) upd_same .nil, list_shaped hss, by decide, _, rfl, ?_⟩
  rw [eqv_nil]
  cases hE : ss.isEmpty with
  | true =>
    have e0 : ss = [] := List.isEmpty_iff.mp hE
    subst e0
    rw [total_nil] at hn
    refine iteF ⟨_, rfl, ?_⟩
    have hn' : n = t.size := by omega
    subst hn'
    exact q _ (sm.trans s2)
  | false =>
    have e0 : ss ≠ [] := fun z => by rw [z] at hE; cases hE
    obtain ⟨ts, x, ws, u, e1, e2, h1, h2⟩ := (hs.same s2).snoc e0
    subst e1 e2
    have lw := h1.len
    rw [total_append, total_cons, total_nil] at hn
    have tl := total_len ts
    have tx := size_pos x
    refine iteT ⟨fun σ' H' => ∃ (n' : Nat) (ss' : List Sh) (us' : List V) (y' : Option V), σ' = [some v, some (.int (n' : Nat)), some (.ref p), y'] ∧ 2 * total ss' - ss'.length < 2 * total (ts ++ [x]) - (ts ++ [x]).length ∧ n' + total ss' = t.size ∧ Same H H' ∧ H' p = some (.lst us') ∧ ShVs H' ss' us',
      fun σ' H' ⟨n', ss', us', y', a1, a2, a3, a4, a5, a6⟩ => ⟨_, a2, n', ss', us', y', a1, rfl, a3, a4, a5, a6⟩, ?_⟩
    -- part = rest.pop()
    have hlast : (ws ++ [u])[(ws ++ [u]).length - 1]? = some u := by simp
    refine ⟨.ref p, rfl, .inl ⟨rfl, _, .inl (.inl hl2)⟩, p, _, u, rfl, rfl, hl2, hlast, ?_⟩
    have ed : (ws ++ [u]).dropLast = ws := by simp
    rw [ed]
    -- found += 1 if part == () else 0
    have s3 : Same H (upd (upd H3 e (.lst [])) p (.lst ws)) := same_wr (sm.trans s2) hp
    have k3 : TupK (upd H3 e (.lst [])) (upd (upd H3 e (.lst [])) p (.lst ws)) := fun a xs ha => by
      rw [upd_ne (ne_of ha hl2 (by intro z; cases z))]
      exact ha
    have h2' := h2.keep k3
    have h1' := h1.keep k3
    refine ⟨_, rfl, u, rfl, le_line (Nat.zero_le _), fun e2 he2 => ?_⟩
    have s4 : Same (upd (upd H3 e (.lst [])) p (.lst ws)) (upd (upd (upd H3 e (.lst [])) p (.lst ws)) e2 (.tup [])) := same_new he2
    refine ⟨_, _, (h2'.same s4).dp, ShV.dp (s := .o) ⟨e2, rfl, upd_same⟩, dat_shaped (by omega), dat_shaped (by decide), _, rfl, ?_⟩
    rw [dat_eqv]
    have hp4 := s4 p _ upd_same
    have h2s := h2'.same s4
    cases x with
    | o =>
      obtain ⟨a, ea, ha⟩ := h2s
      subst ea
      rw [decide_eq_true rfl]
      refine iteT ⟨_, _, rfl, rfl, .ref p, rfl, .inl ⟨rfl, _, .inl (.inl hp4)⟩, .ref a, rfl, p, a, ws, [], rfl, rfl, hp4, ha, ?_, ?_⟩
      · rw [lw]
        exact le_line (by simp; omega)
      · have e3 : (1 : Nat) = Sh.o.size := rfl
        refine ⟨n + 1, ts, ws, some (.ref a), rfl, ?_, by rw [← e3] at hn; omega, same_wr (s3.trans s4) hp, by rw [upd_same, List.append_nil], ?_⟩
        · rw [total_append, total_cons, total_nil, List.length_append, List.length_singleton]
          show _ < 2 * (total ts + (1 + 0)) - (ts.length + 1)
          omega
        · refine ((h1'.same s4).keep fun b xs hb => ?_)
          rw [upd_ne (ne_of hb hp4 (by intro z; cases z))]
          exact hb
    | p l r =>
      obtain ⟨a, x1, x2, ea, ha, hx1, hx2⟩ := h2s
      subst ea
      rw [decide_eq_false (show ¬ Sh.p l r = .o from fun z => by cases z)]
      refine iteF ⟨_, _, rfl, rfl, .ref p, rfl, .inl ⟨rfl, _, .inl (.inl hp4)⟩, .ref a, rfl, p, a, ws, [x1, x2], rfl, rfl, hp4, ha, ?_, ?_⟩
      · rw [lw]
        exact le_line (by simp; omega)
      · have e3 : (Sh.p l r).size = l.size + r.size := rfl
        refine ⟨n, ts ++ [l, r], ws ++ [x1, x2], some (.ref a), by simp, ?_, ?_, same_wr (s3.trans s4) hp, upd_same, ?_⟩
        · rw [total_append, total_append, total_cons, total_cons, total_cons, total_nil, List.length_append, List.length_append, e3]
          simp
          omega
        · rw [total_append, total_cons, total_cons, total_nil]
          omega
        · refine ((((h1'.same s4)).append (.cons hx1 (.cons hx2 .nil))).keep fun b xs hb => ?_)
          rw [upd_ne (ne_of hb hp4 (by intro z; cases z))]
          exact hb
end
end Lp
set_option Elab.async false
set_option linter.all false
set_option maxRecDepth 100000
set_option maxHeartbeats 4000000
namespace Lp
open PySem PySem.Spec PyProof.Rows L2 Sh
/-- a def of the module, as it is found by its name -/
structure Df (K : PySem.W.Frag) (mg : Str → Option Value) (x : Str) (st : Stmt) (ps : List Str) (f : Addr) (fd : FuncData) : Prop where
  fn : Fun K x x st f fd
  gl : mg x = some (.ref f)
  bi : Binds K fd ps []
theorem pe_df {X : Cx} {k : Nat} {f : Addr} {fd : FuncData} {x : Str} {st : Stmt} {ps : List Str} {sp : Sp} {p pos : Pos} {e : Expr} {es : List Expr} {t : TA} (D : Df X.K X.mg x st ps f fd) (G : FnOk X.prog X.w X.K X.mg X.base CX0 k f fd ps sp) (hr : Room k X.A) (hg : Gl X x) (ha : PA X (e :: es) t)
    (hdb : (x == ("__debug__" : Str)) = false := by decide) (he : starEach (e :: es) X.env = (false, eval e X.env) :: starEach es X.env := by rfl) (hpl : (backTo pos (starEach es X.env)).any (·.1) = false := by rfl) :
    PE X (.Call (.Name x p) (e :: es) [] pos) (tCall sp [] E0 t) := pe_call G hr hg D.gl D.fn.kp D.bi .nil pass0 ha hdb he hpl
/-- range(0, m, b) -/
theorem rg_up {m b : Nat} (hb : 1 ≤ b) (hb2 : b ≤ 1000) (hm : m ≤ 1000) : RgC 0 (m : Nat) (b : Nat) (ups b m) := by
  have e : Builtin.Range.rangeSize 0 (m : Nat) (b : Nat) = ((ups b m : Nat) : Int) := by
    rw [rangeSize_pos (by omega) (by omega)]
    unfold ups
    rw [show ((m : Int) + (b : Int) - 1) = (((m + b - 1 : Nat)) : Int) by omega]
    rfl
  have hu := ups_le (b := b) (m := m) hb
  refine ⟨by omega, by omega, ?_, e⟩
  unfold Builtin.Range.small
  show (_ : Bool) = true
  rw [e]
  simp only [Builtin.Range.rangeFitsLong, Bool.and_eq_true, Bool.or_eq_true, decide_eq_true_eq, beq_iff_eq]
  have h2 : ((ups b m : Nat) : Int) * (b : Nat) ≤ 1000 * 1000 := by
    have h3 : ups b m * b ≤ 1000 * 1000 := Nat.mul_le_mul (by omega) hb2
    omega
  have h4 : (0 : Int) ≤ ((ups b m : Nat) : Int) * (b : Nat) := by
    have : (0 : Nat) ≤ ups b m * b := Nat.zero_le _
    omega
  have hbp : ((b : Nat) : Int) > 0 := by omega
  rw [if_pos hbp]
  simp only [Bool.and_eq_true, decide_eq_true_eq]
  omega
/-- a comprehension without a test -/
theorem yes_go {σ : L2.St} {H : Hp} {A B : Hp → Prop} (h : A H) : tYes σ H (fun b H3 => if b = true then A H3 else B H3) := by
  show (if true = true then A H else B H)
  rw [if_pos rfl]
  exact h
def sideS (left : Bool) : Str := if left = true then "left" else "right"
theorem side_dec (left : Bool) : decide (V.str (sideS left) = V.str "left") = left := by cases left <;> decide +kernel
section
variable {P : Program} {w : World} {K : PySem.W.Frag} {mg : Str → Option Value} {base : Heap}
/-! ### comb -/
theorem scComb : FnScope ["n", "side", "found", "lap"] ["n", "side"] (defScope sComb) := ⟨rfl, rfl, rfl, by decide +kernel, rfl, by decide +kernel, by decide +kernel⟩
def spComb : Sp := fun vs H Q _ => ∃ (k : Nat) (left : Bool), vs = [.int ((k + 1 : Nat) : Int), .str (sideS left)] ∧ k ≤ 1000 ∧ ∀ v H', Same H H' → ShV H' (comb left k) v → Q v H'
theorem ok_comb {f : Addr} {fd : FuncData} (F : Fun K "comb" "comb" sComb f fd) (mr : mg "range" = none) : FnOk P w K mg base CX0 1 f fd ["n", "side"] spComb := by
  refine F.ok scComb (fun vs H Q E h => ?_) (fun cdv A outer s H vs Q E hr h => ?_)
  · obtain ⟨k, left, rfl, _⟩ := h
    rfl
  obtain ⟨k, left, rfl, hk, q⟩ := h
  refine ⟨_, pss_cons (ps_set (i := 2) scComb.nd rfl (.inl rfl) (pe_tup pa_nil))
    (pss_cons (ps_for PassesOwn.never rfl (pi_range1 rfl mr (pa_cons (pe_op op_sub (pv 0) pe_int) pa_nil)) (pg_name (i := 3) scComb.nd rfl (.inl rfl))
      (pss_one (ps_set (i := 2) scComb.nd rfl (.inl rfl) (pe_ifExp (pt_cmpR op_eq (pv 1) pe_str (nomark _)) (pe_tup (pa_cons (pv 2) (pa_cons (pe_tup pa_nil) pa_nil))) (pe_tup (pa_cons (pe_tup pa_nil) (pa_cons (pv 2) pa_nil)))))))
    (pss_one (ps_ret (pv 2)))), ?_⟩
  refine ⟨le_line (by simp), fun p hp => ?_⟩
  refine ⟨_, rfl, _, _, rfl, rfl, _, rfl, by omega, by omega, for_range (lo := 0) (n := _) (fun i σ H' => ∃ v y, σ = [some (.int ((k + 1 : Nat) : Int)), some (.str (sideS left)), some v, y] ∧ Same H H' ∧ ShV H' (comb left i) v)
    ⟨_, _, rfl, same_new hp, p, rfl, upd_same⟩ ?_ ?_⟩
  · rintro i σ H' hi ⟨v, y, rfl, sm, hv⟩
    refine ⟨.str (sideS left), rfl, rfl, _, rfl, ?_⟩
    show (if (decide (V.str (sideS left) = V.str "left")) = true then _ else _)
    rw [side_dec]
    cases left with
    | true =>
      refine iteT ⟨v, rfl, le_line (by simp), fun p1 hp1 => ⟨le_line (by simp), fun p2 hp2 => ?_⟩⟩
      have s1 : Same H' (upd H' p1 (.tup [])) := same_new hp1
      have s2 : Same (upd H' p1 (.tup [])) (upd (upd H' p1 (.tup [])) p2 (.tup [v, .ref p1])) := same_new hp2
      exact ⟨_, _, rfl, sm.trans (s1.trans s2), p2, _, _, rfl, upd_same, hv.same (s1.trans s2), p1, rfl, s2 _ _ upd_same⟩
    | false =>
      refine iteF ⟨le_line (by simp), fun p1 hp1 => ⟨v, rfl, le_line (by simp), fun p2 hp2 => ?_⟩⟩
      have s1 : Same H' (upd H' p1 (.tup [])) := same_new hp1
      have s2 : Same (upd H' p1 (.tup [])) (upd (upd H' p1 (.tup [])) p2 (.tup [.ref p1, v])) := same_new hp2
      exact ⟨_, _, rfl, sm.trans (s1.trans s2), p2, _, _, rfl, upd_same, ⟨p1, rfl, s2 _ _ upd_same⟩, hv.same (s1.trans s2)⟩
  · rintro σ H' ⟨v, y, rfl, sm, hv⟩
    have e : (((k + 1 : Nat) : Int) - 1).toNat = k := by omega
    rw [e] at hv
    exact ⟨v, rfl, q v H' sm hv⟩
/-! ### wrong_shape, is_shape -/
theorem scWrong : FnScope ["value", "side", "part", "path"] ["value"] (defScope sWrong) := ⟨rfl, rfl, rfl, by decide +kernel, rfl, by decide +kernel, by decide +kernel⟩
def spWrong (n : Nat) : Sp := fun vs H Q _ => ∃ (v : V) (s : Sh), vs = [v] ∧ ShV H s v ∧ s.size ≤ n ∧ ∀ H', Same H H' → Q .non H'
theorem ok_wrong0 {f : Addr} {fd : FuncData} : FnOk P w K mg base CX0 1 f fd ["value"] (spWrong 0) := by
  have no : ∀ vs H Q E, ¬ spWrong 0 vs H Q E := fun vs H Q E h => by
    obtain ⟨v, s, _, _, hz, _⟩ := h
    have := size_pos s
    omega
  exact ⟨fun vs H Q E h => absurd h (no vs H Q E), fun A outer s H args us vs Q E _ _ _ _ h => absurd h (no vs H Q E)⟩
theorem ok_wrong1 {n : Nat} {f : Addr} {fd : FuncData} (D : Df K mg "wrong_shape" sWrong ["value"] f fd) (G : FnOk P w K mg base CX0 (n + 1) f fd ["value"] (spWrong n)) (mi : mg "isinstance" = none) (mt : mg "tuple" = none) (ml : mg "len" = none) (me : mg "enumerate" = none) :
    FnOk P w K mg base CX0 (n + 2) f fd ["value"] (spWrong (n + 1)) := by
  refine D.fn.ok scWrong (fun vs H Q E h => ?_) (fun cdv A outer s H vs Q E hr h => ?_)
  · obtain ⟨v, t, rfl, _⟩ := h
    rfl
  obtain ⟨v, t, rfl, hv, hz, q⟩ := h
  refine ⟨_, pss_cons (ps_if (PW.pt (pw_or (pt_not (pt_val (pe_callB call_isi (by rfl) mi boot_isinstance (pa_cons (pv 0) (pa_cons (pe_bltn (v := .ty "tuple") (by rfl) mt PyProof.Rows.boot_tuple rfl) pa_nil)))))
      (pw_or1 (pt_cmpR op_notIn_seq (pe_callB call_len_seq (by rfl) ml PySem.boot_len (pa_cons (pv 0) pa_nil)) (pe_tup (pa_cons pe_int (pa_cons pe_int pa_nil))) (by rfl))))) pss_never pss_nil)
    (pss_cons (ps_for PassesOwn.never rfl (pi_enumA (by rfl) me (pa_cons (pv 0) pa_nil)) (pg_tup rfl (pgs_cons (pg_name (i := 1) scWrong.nd rfl (.inl rfl)) (pgs_cons (pg_name (i := 2) scWrong.nd rfl (.inl rfl)) pgs_nil)))
      (pss_cons (ps_set (i := 3) scWrong.nd rfl (.inl rfl) (pe_df D G hr (by rfl) (pa_cons (pv 2) pa_nil)))
      (pss_one (ps_if (pt_cmpR op_notN (pv 3) pe_non (nomark _)) pss_never pss_nil))))
    (pss_one (ps_ret pe_non))), ?_⟩
  obtain ⟨a, xs, ea, ha, hk⟩ := hv.tup
  subst ea
  -- isinstance(value, tuple)
  refine ⟨_, rfl, _, _, _, _, true, rfl, .ty "tuple", .base (.tup ha), kit_ty (by decide +kernel), _, rfl, ?_⟩
  refine iteF ?_
  -- len(value) not in (0, 2)
  refine ⟨_, rfl, a, xs, rfl, .inr (SqT.of ha), le_line (by simp), fun e he => ?_⟩
  have s1 : Same H (upd H e (.tup [.int 0, .int 2])) := same_new he
  refine ⟨e, [.int 0, .int 2], rfl, .inr (SqT.of upd_same), rfl, by decide, _, rfl, ?_⟩
  have hin : inV (.int (xs.length : Nat)) [.int 0, .int 2] = true := by
    rw [hk]
    cases t with
    | o => exact (by decide : inV (.int ((0 : Nat) : Int)) [.int 0, .int 2] = true)
    | p l r => exact (by decide : inV (.int ((2 : Nat) : Int)) [.int 0, .int 2] = true)
  rw [if_pos rfl, hin]
  refine iteF ?_
  -- for side, part in enumerate(value)
  refine ⟨.ref a, rfl, false, a, xs, rfl, SqT.of (s1 _ _ ha), fun J wk => ?_⟩
  refine for_it wk (fun i σ H' => ∃ y1 y2 y3, σ = [some (.ref a), y1, y2, y3] ∧ Same H H') ⟨_, _, _, rfl, s1⟩ (fun i σ H' _ h => ?_) (fun i x σ H1 H2 hi h y => ?_) (fun σ H' h => ?_)
  · obtain ⟨_, _, _, _, sm⟩ := h
    exact SqT.of (sm _ _ ha)
  · obtain ⟨y1, y2, y3, rfl, sm⟩ := h
    obtain ⟨T, x1, x2, rfl, nT, rfl, f1, f2⟩ := y
    have s2 : Same H1 (upd H1 T (.tup [x1, x2])) := same_new nT
    refine ⟨T, [x1, x2], rfl, SqT.of upd_same, rfl, x1, [x2], rfl, x2, [], rfl, rfl, ?_⟩
    -- the part is a shape, and smaller
    have hp : ∃ u : Sh, ShV H u x2 ∧ u.size < t.size := by
      cases t with
      | o =>
        obtain ⟨b, eb, hb⟩ := hv
        cases eb
        rw [ha] at hb
        cases hb
        cases hi
      | p l r =>
        obtain ⟨b, u1, u2, eb, hb, h1, h2⟩ := hv
        cases eb
        rw [ha] at hb
        cases hb
        match i, hi, f2 with
        | 0, _, f2 =>
          have e2 : u1 = x2 := Option.some.inj f2
          exact ⟨l, e2 ▸ h1, size_l_lt l r⟩
        | 1, _, f2 =>
          have e2 : u2 = x2 := Option.some.inj f2
          exact ⟨r, e2 ▸ h2, size_r_lt l r⟩
    obtain ⟨u, hu, lu⟩ := hp
    refine ⟨x2, rfl, x2, u, rfl, hu.same (sm.trans s2), by omega, fun H3 s3 => ?_⟩
    refine ⟨.non, rfl, rfl, _, rfl, ?_⟩
    rw [decide_eq_true rfl]
    exact iteF ⟨_, _, _, rfl, (sm.trans s2).trans s3⟩
  · obtain ⟨y1, y2, y3, rfl, sm⟩ := h
    exact q H' sm
theorem ok_wrong {f : Addr} {fd : FuncData} (D : Df K mg "wrong_shape" sWrong ["value"] f fd) (mi : mg "isinstance" = none) (mt : mg "tuple" = none) (ml : mg "len" = none) (me : mg "enumerate" = none) : ∀ n : Nat, FnOk P w K mg base CX0 (n + 1) f fd ["value"] (spWrong n)
  | 0 => ok_wrong0
  | n + 1 => ok_wrong1 D (ok_wrong D mi mt ml me n) mi mt ml me
theorem scIsShape : FnScope ["value"] ["value"] (defScope sIsShape) := ⟨rfl, rfl, rfl, by decide +kernel, rfl, by decide +kernel, by decide +kernel⟩
def spIsShape : Sp := fun vs H Q _ => ∃ (v : V) (s : Sh), vs = [v] ∧ ShV H s v ∧ s.size ≤ 60 ∧ ∀ H', Same H H' → Q (.bl true) H'
theorem ok_is_shape {f fW : Addr} {fd fdW : FuncData} (F : Fun K "is_shape" "is_shape" sIsShape f fd) (D : Df K mg "wrong_shape" sWrong ["value"] fW fdW) (G : FnOk P w K mg base CX0 61 fW fdW ["value"] (spWrong 60)) : FnOk P w K mg base CX0 62 f fd ["value"] spIsShape := by
  refine F.ok scIsShape (fun vs H Q E h => ?_) (fun cdv A outer s H vs Q E hr h => ?_)
  · obtain ⟨v, t, rfl, _⟩ := h
    rfl
  obtain ⟨v, t, rfl, hv, hz, q⟩ := h
  refine ⟨_, pss_one (ps_ret (pe_cmpR op_isN (pe_df D G hr (by rfl) (pa_cons (pv 0) pa_nil)) pe_non (nomark _))), ?_⟩
  refine ⟨v, rfl, v, t, rfl, hv, hz, fun H1 s1 => ⟨rfl, ?_⟩⟩
  rw [decide_eq_true rfl]
  exact q H1 s1
/-! ### stretches -/
theorem scStretches : FnScope ["m", "b", "begin"] ["m", "b"] (defScope sStretches) := ⟨rfl, rfl, rfl, by decide +kernel, rfl, by decide +kernel, by decide +kernel⟩
/-- the pairs of the stretches -/
def StrAt (H : Hp) (m b : Nat) (n : Nat) (vs : List V) : Prop := vs.length = n ∧ ∀ i, i < n → ∃ t, vs[i]? = some (.ref t) ∧ H t = some (.tup [.int ((i * b : Nat) : Int), .int ((min (i * b + b) m : Nat) : Int)])
def spStretches : Sp := fun vs H Q _ => ∃ (m b : Nat), vs = [.int (m : Nat), .int (b : Nat)] ∧ m ≤ 100 ∧ 1 ≤ b ∧ b ≤ 100 ∧ ∀ p us H', Same H H' → H p = none → H' p = some (.lst us) → StrAt H' m b (ups b m) us → Q (.ref p) H'
theorem ok_stretches {f : Addr} {fd : FuncData} (F : Fun K "stretches" "stretches" sStretches f fd) (mr : mg "range" = none) (mm : mg "min" = none) : FnOk P w K mg base CX0 1 f fd ["m", "b"] spStretches := by
  refine F.ok scStretches (fun vs H Q E h => ?_) (fun cdv A outer s H vs Q E hr h => ?_)
  · obtain ⟨m, b, rfl, _⟩ := h
    rfl
  obtain ⟨m, b, rfl, hm, hb, hb2, q⟩ := h
  refine ⟨_, pss_one (ps_ret (pe_lc (own := [("begin", 2)]) (g := gName 2) (tt := tYes) rfl scStretches.nd (pi_range3 (by rfl) mr (pa_cons pe_int (pa_cons (pv 0) (pa_cons (pv 1) pa_nil))))
    (blkOk_by (own := [("begin", 2)]) (N := ["m", "b", "begin"]) (sc := defScope sStretches) (by decide +kernel)) (fun _ _ _ _ _ => pg_name (i := 2) scStretches.nd rfl (.inl rfl)) (fun _ _ _ _ _ => pts_nil)
    (fun _ _ _ _ _ => pe_tup (pa_cons (pv 2) (pa_cons (pe_callB (call_min2 rfl) (by rfl) mm PyProof.Rows.boot_min (pa_cons (pe_op op_add (pv 2) (pv 1)) (pa_cons (pv 0) pa_nil))) pa_nil))))), ?_⟩
  refine ⟨_, rfl, _, rfl, _, _, _, ups b m, rfl, rg_up hb (by omega) (by omega), fun D hD => ?_⟩
  refine lc_it walk_rangeC (fun i H' => Same H H' ∧ ∃ us, H' D = some (.lst us) ∧ StrAt H' m b i us) ⟨same_new hD, [], upd_same, rfl, fun i hi => absurd hi (Nat.not_lt_zero i)⟩ (fun _ _ _ _ => trivial) (fun i x H1 H2 hi h y => ?_) (fun H' h => ?_)
  · obtain ⟨sm, us, hd, hl, hs⟩ := h
    obtain ⟨rfl, rfl⟩ := y
    refine ⟨rfl, yes_go ?_⟩
    refine ⟨_, rfl, _, rfl, _, rfl, _, _, rfl, rfl, _, rfl, _, _, rfl, le_line (by simp), fun t ht => ?_⟩
    have s2 := fun o => same_new (o := o) ht
    refine ⟨us, s2 _ _ _ hd, ?_, ?_⟩
    · have := ups_le (b := b) (m := m) hb
      exact lt_line (by omega)
    · refine ⟨same_wr (sm.trans (s2 _)) hD, _, upd_same, by rw [List.length_append, hl]; rfl, fun j hj => ?_⟩
      have nDt : D ≠ t := ne_of_none hd ht
      by_cases hji : j < i
      · obtain ⟨t', e1, e2⟩ := hs j hji
        refine ⟨t', ?_, ?_⟩
        · rw [List.getElem?_append_left (by omega)]
          exact e1
        · rw [upd_ne (ne_of e2 hd (by intro z; cases z))]
          exact s2 _ _ _ e2
      · have ej : j = i := by omega
        subst ej
        refine ⟨t, ?_, ?_⟩
        · rw [List.getElem?_append_right (by omega), hl, Nat.sub_self]
          rfl
        · rw [upd_ne (Ne.symm nDt), upd_same]
          have e1 : ((0 : Int) + ((j : Nat) : Int) * ((b : Nat) : Int)) = ((j * b : Nat) : Int) := by
            rw [Int.natCast_mul]
            omega
          have e2 : (if ((m : Nat) : Int) < (0 : Int) + ((j : Nat) : Int) * ((b : Nat) : Int) + ((b : Nat) : Int) then ((m : Nat) : Int) else (0 : Int) + ((j : Nat) : Int) * ((b : Nat) : Int) + ((b : Nat) : Int)) = ((min (j * b + b) m : Nat) : Int) := by
            rw [e1]
            split <;> omega
          show some (HO.tup [V.int ((0 : Int) + ((j : Nat) : Int) * ((b : Nat) : Int)), _]) = _
          rw [e2, e1]
  · obtain ⟨sm, us, hd, hs⟩ := h
    exact q D us H' sm hD hd hs
end
end Lp
set_option Elab.async false
set_option linter.all false
set_option maxRecDepth 100000
set_option maxHeartbeats 4000000
namespace Lp
open PySem PySem.Spec PyProof.Rows L2 Sh
theorem cut_take (xs : List V) (k : Nat) : cutV xs none (some (k : Int)) = xs.take k := by
  unfold cutV
  rw [HT.sIx_none, HT.sIx_nat, List.drop_zero, Nat.sub_zero]
  by_cases h : k ≤ xs.length
  · rw [Nat.min_eq_left h]
  · rw [Nat.min_eq_right (by omega), List.take_length, List.take_of_length_le (by omega)]
theorem cut_drop (xs : List V) (k : Nat) : cutV xs (some (k : Int)) none = xs.drop k := by
  unfold cutV
  rw [HT.sIx_none, HT.sIx_nat]
  by_cases h : k ≤ xs.length
  · rw [Nat.min_eq_left h, List.take_of_length_le]
    rw [List.length_drop]
    exact Nat.le_refl _
  · rw [Nat.min_eq_right (by omega), List.drop_eq_nil_of_le (Nat.le_refl _), List.drop_eq_nil_of_le (by omega), List.take_nil]
/-- the sizes of shapes as values -/
def szV (ps : List Sh) : List V := ps.map fun s => V.int (s.size : Nat)
theorem szV_len (ps : List Sh) : (szV ps).length = ps.length := List.length_map _
theorem szV_take (ps : List Sh) (k : Nat) : (szV ps).take k = szV (ps.take k) := by
  unfold szV
  rw [List.map_take]
theorem szV_drop (ps : List Sh) (k : Nat) : (szV ps).drop k = szV (ps.drop k) := by
  unfold szV
  rw [List.map_drop]
theorem szV_get {ps : List Sh} {k : Nat} (h : k < ps.length) : (szV ps)[k]? = some (.int (ps[k].size : Nat)) := by
  unfold szV
  rw [List.getElem?_map, List.getElem?_eq_getElem h]
  rfl
theorem total_take_succ {ps : List Sh} {k : Nat} (h : k < ps.length) : total (ps.take (k + 1)) = total (ps.take k) + ps[k].size := by
  rw [List.take_add_one, List.getElem?_eq_getElem h, total_append]
  show total (ps.take k) + total [ps[k]] = _
  rw [total_cons, total_nil]
  omega
theorem total_take_lt {ps : List Sh} {j k : Nat} (h : j < k) (hk : k ≤ ps.length) : total (ps.take j) < total (ps.take k) := by
  induction k with
  | zero => omega
  | succ k ih =>
    have e := total_take_succ (ps := ps) (k := k) (by omega)
    have p := size_pos ps[k]
    by_cases hj : j < k
    · have := ih hj (by omega)
      omega
    · have ej : j = k := by omega
      subst ej
      omega
section
variable {P : Program} {w : World} {K : PySem.W.Frag} {mg : Str → Option Value} {base : Heap}
theorem scTaken : FnScope ["shape", "sizes", "left", "many", "k", "one", "other"] ["shape", "sizes"] (defScope sTakenOff) := ⟨rfl, rfl, rfl, by decide +kernel, rfl, by decide +kernel, by decide +kernel⟩
def spTaken (n : Nat) : Sp := fun vs H Q _ => ∃ (v : V) (a : Addr) (A : Sh) (ps : List Sh), vs = [v, .ref a] ∧ ShV H (fill A ps) v ∧ H a = some (.lst (szV ps)) ∧ ps.length = A.size ∧ (fill A ps).size ≤ n ∧ n ≤ 60 ∧
  ∀ t l u ws H', Same H H' → H' t = some (.tup [.ref l, u]) → H' l = some (.lst ws) → ShVs H' ps ws → ShV H' A u → Q (.ref t) H'
theorem ok_taken0 {f : Addr} {fd : FuncData} : FnOk P w K mg base CX0 1 f fd ["shape", "sizes"] (spTaken 0) := by
  have no : ∀ vs H Q E, ¬ spTaken 0 vs H Q E := fun vs H Q E h => by
    obtain ⟨v, a, A, ps, _, _, _, _, hz, _⟩ := h
    have := size_pos (fill A ps)
    omega
  exact ⟨fun vs H Q E h => absurd h (no vs H Q E), fun A outer s H args us vs Q E _ _ _ _ h => absurd h (no vs H Q E)⟩
theorem ok_taken1 {n : Nat} {f fS : Addr} {fd fdS : FuncData} (D : Df K mg "taken_off" sTakenOff ["shape", "sizes"] f fd) (G : FnOk P w K mg base CX0 (n + 1) f fd ["shape", "sizes"] (spTaken n)) (DS : Df K mg "size_of" sSizeOf ["shape"] fS fdS) (ml : mg "len" = none) :
    FnOk P w K mg base CX0 (n + 2) f fd ["shape", "sizes"] (spTaken (n + 1)) := by
  have GS : FnOk P w K mg base CX0 1 fS fdS ["shape"] spSizeOf := ok_size_of DS.fn
  refine D.fn.ok scTaken (fun vs H Q E h => ?_) (fun cdv A outer s H vs Q E hr h => ?_)
  · obtain ⟨v, a, _, _, rfl, _⟩ := h
    rfl
  obtain ⟨v, a, T, ps, rfl, hv, ha, hlen, hz, h60, q⟩ := h
  have hr1 : Room 1 (A.deeper (envOfC "taken_off" (defScope sTakenOff) s.heap.objs.size f cdv)) := hr.mono (by omega)
  have ix0 : PE (cxOf CX0 P w K mg base ["shape", "sizes", "left", "many", "k", "one", "other"] "taken_off" (defScope sTakenOff) f cdv A outer s H E).nox (.Name "shape" ⟨0, 0, 0, 0⟩) (tVar 0) := pv 0
  refine ⟨_, pss_cons (ps_if (pt_cmpR op_eq (pe_callB call_len_seq (by rfl) ml PySem.boot_len (pa_cons (pv 1) pa_nil)) pe_int (nomark _))
      (pss_one (ps_ret (pe_tup (pa_cons (pe_lst (pa_cons (pv 0) pa_nil)) (pa_cons (pe_tup pa_nil) pa_nil))))) pss_nil)
    (pss_cons (ps_par3 (i := 2) (j := 3) (l := 4) rfl scTaken.nd rfl rfl rfl (by decide) (by decide) (by decide) rfl rfl rfl
      (pa_cons (pe_df DS GS hr1 (by rfl) (pa_cons (pe_ix ix_tup (pv 0) pe_int (fun _ _ => rfl)) pa_nil)) (pa_cons pe_int (pa_cons pe_int pa_nil))) (by rfl))
    (pss_cons (ps_while PassesOwn.never (pt_cmpR op_lt (pv 3) (pv 2) (nomark _))
      (pss_cons (ps_aug (i := 3) scTaken.nd rfl (.inl rfl) (pe_ix ix_list (pv 1) (pv 4) (fun _ _ => rfl)) ip_add) (pss_one (ps_aug (i := 4) scTaken.nd rfl (.inl rfl) pe_int ip_add))))
    (pss_cons (ps_if (pt_cmpR op_ne (pv 3) (pv 2) (nomark _)) (pss_one (ps_ret pe_non)) pss_nil)
    (pss_cons (ps_par (i := 5) (j := 6) rfl scTaken.nd rfl rfl (by decide) rfl rfl
      (pa_cons (pe_df D G hr (by rfl) (pa_cons (pe_ix ix_tup (pv 0) pe_int (fun _ _ => rfl)) (pa_cons (pe_slice sl_list (pv 1) po_none (po_some (pv 4))) pa_nil)))
      (pa_cons (pe_df D G hr (by rfl) (pa_cons (pe_ix ix_tup (pv 0) pe_int (fun _ _ => rfl)) (pa_cons (pe_slice sl_list (pv 1) (po_some (pv 4)) po_none) pa_nil))) pa_nil)) (by rfl))
    (pss_one (ps_ret (pe_ifExp (PW.pt (pw_or (pt_cmpR op_isN (pv 5) pe_non (nomark _)) (pw_or1 (pt_cmpR op_isN (pv 6) pe_non (nomark _))))) pe_non
      (pe_tup (pa_cons (pe_op op_cat (pe_ix ix_tup (pv 5) pe_int (fun _ _ => rfl)) (pe_ix ix_tup (pv 6) pe_int (fun _ _ => rfl)))
        (pa_cons (pe_tup (pa_cons (pe_ix ix_tup (pv 5) pe_int (fun _ _ => rfl)) (pa_cons (pe_ix ix_tup (pv 6) pe_int (fun _ _ => rfl)) pa_nil))) pa_nil)))))))))), ?_⟩
  refine ⟨_, rfl, a, szV ps, rfl, .inl (SqL.of ha), rfl, _, rfl, ?_⟩
  rw [szV_len, hlen]
  cases T with
  | o =>
    -- one lump: the shape as it is
    rw [show decide (V.int ((Sh.o.size : Nat) : Int) = V.int 1) = true from by decide]
    match ps, hlen, hv, ha, q with
    | [x], _, hv, ha, q =>
      refine iteT ⟨_, rfl, le_line (by simp), fun l hl => ⟨le_line (by simp), fun e he => ⟨le_line (by simp), fun t ht => ?_⟩⟩⟩
      have s1 : Same H (upd H l (.lst [v])) := same_new hl
      have s2 : Same (upd H l (.lst [v])) (upd (upd H l (.lst [v])) e (.tup [])) := same_new he
      have s3 : Same (upd (upd H l (.lst [v])) e (.tup [])) (upd (upd (upd H l (.lst [v])) e (.tup [])) t (.tup [.ref l, .ref e])) := same_new ht
      exact q t l (.ref e) [v] _ (s1.trans (s2.trans s3)) upd_same (s3 _ _ (s2 _ _ upd_same)) (.one (hv.same (s1.trans (s2.trans s3)))) ⟨e, rfl, s3 _ _ upd_same⟩
  | p l r =>
    have hlr : ps.length = l.size + r.size := hlen
    have lp := size_pos l
    have rp := size_pos r
    rw [show decide (V.int (((Sh.p l r).size : Nat) : Int) = V.int 1) = false from decide_eq_false fun z => by
      have z' := V.int.inj z
      have : (Sh.p l r).size = l.size + r.size := rfl
      omega]
    refine iteF ?_
    obtain ⟨b, x, y, eb, hb, hx, hy⟩ := hv
    subst eb
    have l1 : (ps.take l.size).length = l.size := by
      rw [List.length_take]
      omega
    have l2 : (ps.drop l.size).length = r.size := by
      rw [List.length_drop]
      omega
    have z1 := fill_size l _ l1
    have z2 := fill_size r _ l2
    have zz : (fill (.p l r) ps).size = (fill l (ps.take l.size)).size + (fill r (ps.drop l.size)).size := rfl
    have p1 := size_pos (fill l (ps.take l.size))
    have p2 := size_pos (fill r (ps.drop l.size))
    -- left, many, k = size_of(shape[0]), 0, 0
    refine ⟨_, rfl, b, [x, y], 0, x, rfl, rfl, SqT.of hb, atI_nat (j := 0) rfl, x, _, rfl, hx, by omega, fun H1 s1 => ⟨_, _, _, rfl, ?_⟩⟩
    rw [z1]
    -- while many < left
    refine ⟨fun m σ H3 => ∃ k : Nat, σ = [some (.ref b), some (.ref a), some (.int (total (ps.take l.size) : Nat)), some (.int (total (ps.take k) : Nat)), some (.int (k : Nat)), none, none] ∧ k ≤ l.size ∧ m = l.size - k ∧ H3 = H1,
      ⟨_, 0, by rw [List.take_zero]; rfl, Nat.zero_le _, rfl, rfl⟩, ?_⟩
    rintro m σ H3 ⟨k, rfl, hk, rfl, rfl⟩
    refine ⟨_, rfl, _, rfl, _, _, rfl, rfl, _, rfl, ?_⟩
    by_cases hkl : k < l.size
    · have lt := total_take_lt (ps := ps) hkl (by omega)
      rw [decide_eq_true (show ((total (ps.take k) : Nat) : Int) < ((total (ps.take l.size) : Nat) : Int) by omega)]
      refine iteT ⟨fun σ' H' => ∃ k' : Nat, σ' = [some (.ref b), some (.ref a), some (.int (total (ps.take l.size) : Nat)), some (.int (total (ps.take k') : Nat)), some (.int (k' : Nat)), none, none] ∧ k' ≤ l.size ∧ l.size - k' < l.size - k ∧ H' = H3,
        fun σ' H' ⟨k', b1, b2, b3, b4⟩ => ⟨_, b3, k', b1, b2, rfl, b4⟩, ?_⟩
      refine ⟨_, rfl, _, rfl, _, rfl, a, szV ps, _, _, rfl, rfl, SqL.of (s1 _ _ ha), atI_nat (szV_get (by omega)), _, _, rfl, rfl, _, rfl, _, _, rfl, rfl, k + 1, ?_, by omega, by omega, rfl⟩
      rw [total_take_succ (by omega)]
      rfl
    · have ek : k = l.size := by omega
      subst ek
      rw [decide_eq_false (show ¬ ((total (ps.take l.size) : Nat) : Int) < ((total (ps.take l.size) : Nat) : Int) by omega)]
      refine iteF ⟨_, rfl, _, rfl, rfl, _, rfl, ?_⟩
      refine iteNS rfl ?_
      have hb1 := s1 _ _ hb
      have ha1 := s1 _ _ ha
      -- the two halves
      refine ⟨_, rfl, b, [x, y], 0, x, rfl, rfl, SqT.of hb1, atI_nat (j := 0) rfl, _, rfl, _, rfl, _, rfl, a, szV ps, rfl, SqL.of ha1, fun c hc => ?_⟩
      rw [cut_take, szV_take]
      have s2 : Same H3 (upd H3 c (.lst (szV (ps.take l.size)))) := same_new hc
      refine ⟨x, c, l, _, rfl, hx.same (s1.trans s2), upd_same, l1, by omega, by omega, fun t1 l1' u1 ws1 H4 s3 e1 e2 e3 e4 => ?_⟩
      have sA : Same H H4 := s1.trans (s2.trans s3)
      refine ⟨_, rfl, b, [x, y], 1, y, rfl, rfl, SqT.of (sA _ _ hb), atI_nat (j := 1) rfl, _, rfl, _, rfl, _, rfl, a, szV ps, rfl, SqL.of (sA _ _ ha), fun c2 hc2 => ?_⟩
      rw [cut_drop, szV_drop]
      have s4 : Same H4 (upd H4 c2 (.lst (szV (ps.drop l.size)))) := same_new hc2
      refine ⟨y, c2, r, _, rfl, hy.same (sA.trans s4), upd_same, l2, by omega, by omega, fun t2 l2' u2 ws2 H5 s5 f1 f2 f3 f4 => ?_⟩
      have sB : Same H4 H5 := s4.trans s5
      refine ⟨_, _, rfl, ?_⟩
      -- the answer
      refine ⟨_, rfl, rfl, _, rfl, iteF ⟨_, rfl, rfl, _, rfl, iteF ?_⟩⟩
      have w1 := e3.len
      have w2 := f3.len
      refine ⟨_, rfl, t1, [.ref l1', u1], 0, _, rfl, rfl, SqT.of (sB _ _ e1), atI_nat (j := 0) rfl, _, rfl, t2, [.ref l2', u2], 0, _, rfl, rfl, SqT.of f1, atI_nat (j := 0) rfl, l1', l2', ws1, ws2, rfl, rfl, sB _ _ e2, f2, ?_, fun g hg => ?_⟩
      · rw [w1, w2, l1, l2]
        have := total_len ps
        have t3 := total_split ps l.size
        exact le_line (by omega)
      have s6 : Same H5 (upd H5 g (.lst (ws1 ++ ws2))) := same_new hg
      refine ⟨_, rfl, t1, [.ref l1', u1], 1, _, rfl, rfl, SqT.of (s6 _ _ (sB _ _ e1)), atI_nat (j := 1) rfl, _, rfl, t2, [.ref l2', u2], 1, _, rfl, rfl, SqT.of (s6 _ _ f1), atI_nat (j := 1) rfl, le_line (by simp), fun j hj => ⟨le_line (by simp), fun o ho => ?_⟩⟩
      have s7 : Same (upd H5 g (.lst (ws1 ++ ws2))) (upd (upd H5 g (.lst (ws1 ++ ws2))) j (.tup [u1, u2])) := same_new hj
      have s8 : Same (upd (upd H5 g (.lst (ws1 ++ ws2))) j (.tup [u1, u2])) (upd (upd (upd H5 g (.lst (ws1 ++ ws2))) j (.tup [u1, u2])) o (.tup [.ref g, .ref j])) := same_new ho
      have s9 := s6.trans (s7.trans s8)
      refine q o g (.ref j) (ws1 ++ ws2) _ (sA.trans (sB.trans s9)) upd_same (s8 _ _ (s7 _ _ upd_same)) ?_ ⟨j, u1, u2, rfl, s8 _ _ upd_same, e4.same (sB.trans s9), f4.same s9⟩
      have hcat := (e3.same (sB.trans s9)).append (f3.same s9)
      rw [List.take_append_drop] at hcat
      exact hcat
theorem ok_taken {f fS : Addr} {fd fdS : FuncData} (D : Df K mg "taken_off" sTakenOff ["shape", "sizes"] f fd) (DS : Df K mg "size_of" sSizeOf ["shape"] fS fdS) (ml : mg "len" = none) : ∀ n : Nat, FnOk P w K mg base CX0 (n + 1) f fd ["shape", "sizes"] (spTaken n)
  | 0 => ok_taken0
  | n + 1 => ok_taken1 D (ok_taken D DS ml n) DS ml
end
end Lp
set_option Elab.async false
set_option linter.all false
set_option maxRecDepth 100000
set_option maxHeartbeats 4000000
namespace Lp
open PySem PySem.Spec PyProof.Rows L2 Sh
/-- what is known of a table: the entries of the sizes in S -/
def Kn (H : Hp) (kvs : List (L2.Key × V)) (T : Tab) (S : Nat → Prop) : Prop :=
  (∀ k v, valV kvs k = some v → ∃ m : Nat, k = Sum.inl (m : Int) ∧ S m ∧ ShV H (T.entry m) v) ∧ ∀ m : Nat, S m → ∃ v, valV kvs (Sum.inl (m : Int) : L2.Key) = some v
theorem Kn.keep {H H' : Hp} {kvs : List (L2.Key × V)} {T : Tab} {S : Nat → Prop} (h : Kn H kvs T S) (k : TupK H H') : Kn H' kvs T S :=
  ⟨fun j v e => let ⟨m, e1, e2, e3⟩ := h.1 j v e; ⟨m, e1, e2, e3.keep k⟩, h.2⟩
theorem Kn.same {H H' : Hp} {kvs : List (L2.Key × V)} {T : Tab} {S : Nat → Prop} (h : Kn H kvs T S) (k : Same H H') : Kn H' kvs T S := h.keep (Same.tupK k)
theorem Kn.congr {H : Hp} {kvs : List (L2.Key × V)} {T : Tab} {S S' : Nat → Prop} (h : Kn H kvs T S) (e : ∀ m, S m ↔ S' m) : Kn H kvs T S' :=
  ⟨fun j v q => let ⟨m, e1, e2, e3⟩ := h.1 j v q; ⟨m, e1, (e m).mp e2, e3⟩, fun m q => h.2 m ((e m).mpr q)⟩
theorem inl_nat {m j : Nat} : (Sum.inl (m : Int) : L2.Key) = Sum.inl (j : Int) ↔ m = j := by
  constructor
  · intro h
    have h' := Sum.inl.inj h
    omega
  · intro h
    rw [h]
theorem Kn.put {H : Hp} {kvs : List (L2.Key × V)} {T : Tab} {S : Nat → Prop} {m : Nat} {v : V} (h : Kn H kvs T S) (hv : ShV H (T.entry m) v) : Kn H (putK kvs (Sum.inl (m : Int)) v) T (fun j => S j ∨ j = m) := by
  refine ⟨fun k u q => ?_, fun j hj => ?_⟩
  · rw [valV_put] at q
    by_cases e : k = Sum.inl (m : Int)
    · rw [if_pos e] at q
      cases q
      exact ⟨m, e, .inr rfl, hv⟩
    · rw [if_neg e] at q
      obtain ⟨j, e1, e2, e3⟩ := h.1 k u q
      exact ⟨j, e1, .inl e2, e3⟩
  · rw [valV_put]
    by_cases e : (Sum.inl (j : Int) : L2.Key) = Sum.inl (m : Int)
    · exact ⟨v, if_pos e⟩
    · rw [if_neg e]
      rcases hj with hj | hj
      · exact h.2 j hj
      · exact absurd (inl_nat.mpr hj) e
theorem cuts_get {b n i : Nat} (h : i < ups b n) : (cuts b n)[i]? = some (cut b n i) := by
  unfold cuts
  rw [List.getElem?_map, List.getElem?_range h]
  rfl
theorem mem_take_succ {l : List Nat} {i x m : Nat} (h : l[i]? = some x) : m ∈ l.take (i + 1) ↔ m ∈ l.take i ∨ m = x := by
  rw [List.take_add_one, h, List.mem_append]
  simp
theorem m2_sd {X : Cx} {x y : Str} {g : Str} {p1 p2 p3 p4 apos cpos cp : Pos} {e f : Expr} (h1 : attributeBase (.Name x p1) "setdefault" X.env (eval (.Name x p1) X.env) = eval (.Name x p1) X.env)
    (h2 : ((backTo cpos (starEach [e, f] X.env)).all (fun x => !x.1) && (backToKw cpos (keywordEach [] X.env)).all (fun x => x.1.isSome) && decide (([e, f] : List Expr).length + ([] : List Keyword).length + (if ([] : List Keyword).isEmpty then 0 else 1) < 30)) = true)
    (h3 : (apos.endLine == cpos.line) = true) (h4 : backTo cpos (starEach [e, f] X.env) = [(false, eval e X.env), (false, eval f X.env)]) : M2 X (.Name x p1) "setdefault" apos e f cpos := ⟨h1, h2, h3, h4⟩
section
variable {P : Program} {w : World} {K : PySem.W.Frag} {mg : Str → Option Value} {base : Heap}
theorem scLevel : FnScope ["known", "size", "shape", "off", "found", "part", "i", "j"] ["known", "size", "shape"] (defScope sReadLevel) := ⟨rfl, rfl, rfl, by decide +kernel, rfl, by decide +kernel, by decide +kernel⟩
/-- the entries that a table uses at n -/
def usesAt (T : Tab) (n m : Nat) : Prop := 2 ≤ m ∧ m ∈ cuts T.size n
def spLevel : Sp := fun vs H Q _ => ∃ (d : Addr) (T : Tab) (v : V) (kvs : List (L2.Key × V)) (A : Sh) (n : Nat) (S : Nat → Prop), vs = [.ref d, .int (T.size : Nat), v] ∧ Tab.Ok T ∧ T.size ≤ 60 ∧ 1 ≤ n ∧ n ≤ 60 ∧ ShV H (fill A (parts T n)) v ∧ A.size = ups T.size n ∧
  H d = some (.dK kvs) ∧ Kn H kvs T S ∧ kvs.length ≤ 5000 ∧
  ∀ t d' u kvs' H', Same H H' → H d' = none → H' t = some (.tup [.ref d', u]) → H' d' = some (.dK kvs') → Kn H' kvs' T (fun m => S m ∨ usesAt T n m) → kvs'.length ≤ kvs.length + 60 → ShV H' A u → Q (.ref t) H'
theorem ok_level {f fT fS fR : Addr} {fd fdT fdS fdR : FuncData} (F : Fun K "read_level" "read_level" sReadLevel f fd) (DT : Df K mg "taken_off" sTakenOff ["shape", "sizes"] fT fdT) (GT : FnOk P w K mg base CX0 61 fT fdT ["shape", "sizes"] (spTaken 60))
    (DS : Df K mg "size_of" sSizeOf ["shape"] fS fdS) (DR : Df K mg "stretches" sStretches ["m", "b"] fR fdR) (GR : FnOk P w K mg base CX0 1 fR fdR ["m", "b"] spStretches) (mdict : mg "dict" = none) :
    FnOk P w K mg base CX0 62 f fd ["known", "size", "shape"] spLevel := by
  have GS : FnOk P w K mg base CX0 1 fS fdS ["shape"] spSizeOf := ok_size_of DS.fn
  refine F.ok scLevel (fun vs H Q E h => ?_) (fun cdv A outer s H vs Q E hr h => ?_)
  · obtain ⟨d, T, v, _, _, _, _, rfl, _⟩ := h
    rfl
  obtain ⟨d, T, v, kvs, B, n, S, rfl, hT, hb60, hn1, hn60, hv, hB, hd, hk, hkl, q⟩ := h
  have hr1 : Room 1 (A.deeper (envOfC "read_level" (defScope sReadLevel) s.heap.objs.size f cdv)) := hr.mono (by decide)
  have hu := hu_of hr
  refine ⟨_, pss_cons (ps_set (i := 3) scLevel.nd rfl (.inl rfl) (pe_df DT GT hr (by rfl) (pa_cons (pv 2) (pa_cons
      (pe_lc (own := [("i", 6), ("j", 7)]) (g := gTup K 2 (gCons (gName 6) (gCons (gName 7) gNil))) (tt := tYes) rfl scLevel.nd (pi_list (pe_df DR GR hr1 (by rfl) (pa_cons (pe_df DS GS hr1 (by rfl) (pa_cons (pv 2) pa_nil)) (pa_cons (pv 1) pa_nil))))
        (blkOk_by (own := [("i", 6), ("j", 7)]) (N := ["known", "size", "shape", "off", "found", "part", "i", "j"]) (sc := defScope sReadLevel) (by decide +kernel))
        (fun _ _ _ _ _ => pg_tup rfl (pgs_cons (pg_name (i := 6) scLevel.nd rfl (.inl rfl)) (pgs_cons (pg_name (i := 7) scLevel.nd rfl (.inl rfl)) pgs_nil))) (fun _ _ _ _ _ => pts_nil) (fun _ _ _ _ _ => pe_op op_sub (pv 7) (pv 6))) pa_nil))))
    (pss_cons (ps_if (pt_cmpR op_isN (pv 3) pe_non (nomark _)) (pss_one (ps_ret pe_non)) pss_nil)
    (pss_cons (ps_set (i := 4) scLevel.nd rfl (.inl rfl) (pe_callTy call_dictD (by rfl) mdict PyProof.Rows.boot_dict (pa_cons (pv 0) pa_nil)))
    (pss_cons (ps_for PassesOwn.never rfl (pi_list (pe_ix ix_tup (pv 3) pe_int (fun _ _ => rfl))) (pg_name (i := 5) scLevel.nd rfl (.inl rfl))
      (pss_one (ps_if (PW.pt (pw_and (pt_cmpR (op_neD hr.units) (pv 5) (pe_tup pa_nil) (nomark _))
        (pw_and1 (pt_cmpR (op_neD hr.units) (pe_dsetd (pv 4) (pe_df DS GS hr1 (by rfl) (pa_cons (pv 5) pa_nil)) (pv 5) ⟨rfl, rfl, rfl, rfl⟩) (pv 5) (nomark _))))) (pss_one (ps_ret pe_non)) pss_nil)))
    (pss_one (ps_ret (pe_tup (pa_cons (pv 4) (pa_cons (pe_ix ix_tup (pv 3) pe_int (fun _ _ => rfl)) pa_nil)))))))), ?_⟩
  have hb := Tab.size_ge hT
  have hlen : (parts T n).length = B.size := by rw [parts_len, hB]
  have hsz : (fill B (parts T n)).size = n := by rw [fill_size _ _ hlen, parts_total hT]
  have hupn := ups_le (b := T.size) (m := n) (by omega)
  -- the sizes of the stretches
  refine ⟨v, rfl, v, rfl, v, _, rfl, hv, by omega, fun H1 s1 => ?_⟩
  rw [hsz]
  refine ⟨_, rfl, n, T.size, rfl, by omega, by omega, by omega, fun p us H2 s2 hp2 hp hstr => ⟨p, rfl, ⟨us, SqL.of hp⟩, fun D hD => ?_⟩⟩
  have hul : us.length = ups T.size n := hstr.1
  refine lc_it (walk_list (xs := us)) (fun i H' => Same H2 H' ∧ H' D = some (.lst (szV ((parts T n).take i)))) ⟨same_new hD, upd_same⟩ (fun i H' _ h => SqL.of (h.1 _ _ hp)) (fun i x H3 H4 hi h y => ?_) (fun H' h => ?_)
  · obtain ⟨sm, hd3⟩ := h
    obtain ⟨rfl, hx⟩ := y
    have hi' : i < ups T.size n := by omega
    obtain ⟨t, e1, e2⟩ := hstr.2 i hi'
    rw [e1] at hx
    cases hx
    refine ⟨t, _, rfl, SqT.of (sm _ _ e2), rfl, _, _, rfl, _, _, rfl, rfl, rfl, yes_go ?_⟩
    refine ⟨_, rfl, _, rfl, _, _, rfl, rfl, _, hd3, ?_, same_wr sm hD, ?_⟩
    · rw [szV_len, List.length_take]
      exact lt_line (by omega)
    · rw [upd_same]
      have hg := parts_get (T := T) (m := n) hi'
      have hc := cut_pos (b := T.size) (m := n) (i := i) (by omega) hi'
      have hin := (ups_in (b := T.size) (m := n) (i := i) (by omega)).mp hi'
      have hes := Tab.entry_size hT hc (cut_le T.size n i)
      have e3 : szV ((parts T n).take (i + 1)) = szV ((parts T n).take i) ++ [.int ((cut T.size n i : Nat) : Int)] := by
        rw [List.take_add_one, hg]
        unfold szV
        rw [List.map_append]
        show _ ++ [V.int (((T.entry (cut T.size n i)).size : Nat) : Int)] = _
        rw [hes]
      rw [e3]
      have e4 : ((min (i * T.size + T.size) n : Nat) : Int) - ((i * T.size : Nat) : Int) = ((cut T.size n i : Nat) : Int) := by
        unfold cut
        omega
      show some (HO.lst (_ ++ [V.int (((min (i * T.size + T.size) n : Nat) : Int) - ((i * T.size : Nat) : Int))])) = _
      rw [e4]
  · obtain ⟨sm, hd3⟩ := h
    rw [hul, ← parts_len, List.take_length] at hd3
    have sA : Same H H' := s1.trans (s2.trans sm)
    -- off = taken_off(..)
    refine ⟨v, D, B, _, rfl, hv.same sA, hd3, hlen, by omega, by omega, fun t l u ws H5 s5 e1 e2 e3 e4 => ?_⟩
    have sB : Same H H5 := sA.trans s5
    refine ⟨_, rfl, rfl, _, rfl, iteF ?_⟩
    -- found = dict(known)
    refine ⟨_, rfl, d, kvs, rfl, .inl (sB _ _ hd), fun g hg => ?_⟩
    have s6 : Same H5 (upd H5 g (.dK kvs)) := same_new hg
    have hwl := e3.len
    -- the loop
    refine ⟨_, rfl, t, [.ref l, u], 0, .ref l, rfl, rfl, SqT.of (s6 _ _ e1), atI_nat (j := 0) rfl, l, rfl, ⟨ws, SqL.of (s6 _ _ e2)⟩, ?_⟩
    refine for_it (walk_list (xs := ws)) (fun i σ H' => ∃ y5 kvs', σ = [some (.ref d), some (.int (T.size : Nat)), some v, some (.ref t), some (.ref g), y5, none, none] ∧ Same H5 H' ∧ H' g = some (.dK kvs') ∧
      Kn H' kvs' T (fun m => S m ∨ (2 ≤ m ∧ m ∈ (cuts T.size n).take i)) ∧ kvs'.length ≤ kvs.length + i) ⟨_, kvs, rfl, s6, upd_same, ((hk.same (sB.trans s6)).congr fun m => ⟨.inl, fun h => h.elim id fun h => by simp at h⟩), Nat.le_refl _⟩ (fun i σ H' _ h => ?_) (fun i x σ H6 H7 hi h y => ?_) (fun σ H' h => ?_)
    · obtain ⟨_, _, _, sm, _⟩ := h
      exact SqL.of (sm _ _ e2)
    · obtain ⟨y5, kvs', rfl, sm, hg6, kn, kl⟩ := h
      obtain ⟨rfl, hx⟩ := y
      have hi' : i < ups T.size n := by
        rw [← parts_len, ← hwl]
        exact hi
      obtain ⟨sp, ep, hsp⟩ := e3.get' hx
      rw [parts_get hi'] at ep
      cases ep
      have hc := cut_pos (b := T.size) (m := n) (i := i) (by omega) hi'
      have hcb := cut_le T.size n i
      have hes := Tab.entry_size hT hc hcb
      have hpx := hsp.same sm
      -- part != ()
      refine ⟨x, rfl, le_line (by simp), fun e he => ?_⟩
      have s7 : Same H7 (upd H7 e (.tup [])) := same_new he
      refine ⟨_, _, (hpx.same s7).dp, ShV.dp (s := .o) ⟨e, rfl, upd_same⟩, dat_shaped (by omega), dat_shaped (by decide), _, rfl, ?_⟩
      rw [dat_eqv]
      by_cases hc1 : cut T.size n i = 1
      · have eo : T.entry (cut T.size n i) = .o := by
          rw [hc1]
          rfl
        rw [eo, decide_eq_true rfl]
        refine iteF (iteF ⟨_, kvs', rfl, sm.trans s7, s7 _ _ hg6, (kn.same s7).congr fun m => ?_, by omega⟩)
        rw [mem_take_succ (cuts_get hi'), hc1]
        constructor
        · rintro (a | ⟨a, c⟩)
          · exact .inl a
          · exact .inr ⟨a, .inl c⟩
        · rintro (a | ⟨a, c | c⟩)
          · exact .inl a
          · exact .inr ⟨a, c⟩
          · omega
      · have no : ¬ T.entry (cut T.size n i) = .o := fun z => by
          rw [z] at hes
          have : Sh.o.size = 1 := rfl
          omega
        rw [decide_eq_false no]
        refine iteT ?_
        -- found.setdefault(size_of(part), part) != part
        refine ⟨.ref g, rfl, g, rfl, .inl ⟨kvs', .inl (s7 _ _ hg6)⟩, x, rfl, x, _, rfl, hpx.same s7, by omega, fun H8 s8 => ?_⟩
        rw [hes]
        have sC := s7.trans s8
        refine ⟨x, rfl, kvs', Sum.inl ((cut T.size n i : Nat) : Int), sC _ _ hg6, rfl, lt_line (by omega), fun v0 hv0 => ?_, fun hno => ?_⟩
        · obtain ⟨m, em, hm, hsm⟩ := kn.1 _ _ hv0
          have em' := inl_nat.mp em
          subst em'
          refine ⟨x, rfl, _, _, (hsm.same sC).dp, (hpx.same sC).dp, dat_shaped (by omega), dat_shaped (by omega), _, rfl, ?_⟩
          rw [dat_eqv, decide_eq_true rfl]
          refine iteF ⟨_, kvs', rfl, sm.trans sC, sC _ _ hg6, (kn.same sC).congr fun m => ?_, by omega⟩
          rw [mem_take_succ (cuts_get hi')]
          constructor
          · rintro (a | ⟨a, c⟩)
            · exact .inl a
            · exact .inr ⟨a, .inl c⟩
          · rintro (a | ⟨a, c | c⟩)
            · exact .inl a
            · exact .inr ⟨a, c⟩
            · rw [c]
              exact hm
        · have kD : TupK H8 (upd H8 g (.dK (putK kvs' (Sum.inl ((cut T.size n i : Nat) : Int)) x))) := fun a xs ha => by
            rw [upd_ne (ne_of ha (sC _ _ hg6) (by intro z; cases z))]
            exact ha
          have hx9 := (hpx.same sC).keep kD
          refine ⟨x, rfl, _, _, hx9.dp, hx9.dp, dat_shaped (by omega), dat_shaped (by omega), _, rfl, ?_⟩
          rw [dat_eqv, decide_eq_true rfl]
          have hl2 := length_putK kvs' (Sum.inl ((cut T.size n i : Nat) : Int)) x
          refine iteF ⟨_, _, rfl, same_wr (sm.trans sC) hg, upd_same, (((kn.same sC).keep kD).put hx9).congr fun m => ?_, by omega⟩
          rw [mem_take_succ (cuts_get hi')]
          constructor
          · rintro ((a | ⟨a, c⟩) | a)
            · exact .inl a
            · exact .inr ⟨a, .inl c⟩
            · exact .inr ⟨by omega, .inr a⟩
          · rintro (a | ⟨a, c | c⟩)
            · exact .inl (.inl a)
            · exact .inl (.inr ⟨a, c⟩)
            · exact .inr c
    · obtain ⟨y5, kvs', rfl, sm, hg6, kn, kl⟩ := h
      refine ⟨.ref g, rfl, _, rfl, t, [.ref l, u], 1, u, rfl, rfl, SqT.of (sm _ _ e1), atI_nat (j := 1) rfl, le_line (by simp), fun o ho => ?_⟩
      have s9 : Same H' (upd H' o (.tup [.ref g, u])) := same_new ho
      have hgH : H g = none := Same.free sB hg
      refine q o g u kvs' _ (sB.trans (sm.trans s9)) hgH upd_same (s9 _ _ hg6) ((kn.same s9).congr fun m => ?_) ?_ (e4.same (sm.trans s9))
      · unfold usesAt
        rw [hwl, parts_len, ← cuts_len, List.take_length]
      · rw [hwl, parts_len] at kl
        omega
end
end Lp
set_option Elab.async false
set_option linter.all false
set_option maxRecDepth 100000
set_option maxHeartbeats 4000000
/-! nothing_known, read_pair, fits_shape. -/
namespace Lp
open PySem PySem.Spec PyProof.Rows L2 Sh
/-- all but lists stays -/
def NL (H H' : Hp) : Prop := ∀ b o, H b = some o → (∀ us, o ≠ .lst us) → H' b = some o
theorem NL.same {H H' : Hp} (h : Same H H') : NL H H' := fun b o e _ => h b o e
theorem NL.trans {H H1 H2 : Hp} (a : NL H H1) (b : NL H1 H2) : NL H H2 := fun c o e n => b c o (a c o e n) n
theorem NL.wr {H : Hp} {p : Addr} {us : List V} {o : HO} (h : H p = some (.lst us)) : NL H (upd H p o) := fun b x e n => by
  rw [upd_ne (ne_of e h (n us))]
  exact e
theorem NL.tupK {H H' : Hp} (h : NL H H') : TupK H H' := fun a xs e => h a _ e fun us z => by cases z
/-- a list or a tuple -/
def Sq2 (H : Hp) (a : Addr) (xs : List V) : Prop := H a = some (.lst xs) ∨ H a = some (.tup xs)
theorem Sq2.same {H H' : Hp} {a : Addr} {xs : List V} (h : Sq2 H a xs) (k : Same H H') : Sq2 H' a xs := h.elim (fun e => .inl (k _ _ e)) fun e => .inr (k _ _ e)
theorem Sq2.sqA {K : PySem.W.Frag} {H : Hp} {a : Addr} {xs : List V} (h : Sq2 H a xs) : ∃ m, ∀ H', Same H H' → SqA m K H' a xs := by
  rcases h with e | e
  · exact ⟨true, fun H' k => SqL.of (k _ _ e)⟩
  · exact ⟨false, fun H' k => SqT.of (k _ _ e)⟩
def tsz (Ts : List Tab) : List V := Ts.map fun T => V.int (T.size : Nat)
theorem tsz_len (Ts : List Tab) : (tsz Ts).length = Ts.length := List.length_map _
theorem tsz_get {Ts : List Tab} {i : Nat} {x : V} (h : (tsz Ts)[i]? = some x) : ∃ T, Ts[i]? = some T ∧ x = .int (T.size : Nat) := by
  unfold tsz at h
  rw [List.getElem?_map] at h
  cases e : Ts[i]? with
  | none => rw [e] at h; cases h
  | some T =>
    rw [e] at h
    exact ⟨T, rfl, (Option.some.inj h).symm⟩
/-- tables that may be read back -/
def TsOk (Ts : List Tab) : Prop := ∀ T ∈ Ts, Tab.Ok T ∧ T.size ≤ 60
theorem TsOk.ok {Ts : List Tab} (h : TsOk Ts) : ∀ T ∈ Ts, Tab.Ok T := fun T hT => (h T hT).1
/-- what is known of the tables -/
def KnL (H : Hp) (Ts : List Tab) (ws : List V) (S : Nat → Nat → Prop) (B : Nat) : Prop :=
  ws.length = Ts.length ∧ ∀ k T, Ts[k]? = some T → ∃ d kvs, ws[k]? = some (.ref d) ∧ H d = some (.dK kvs) ∧ Kn H kvs T (S k) ∧ kvs.length ≤ B
theorem KnL.keep {H H' : Hp} {Ts : List Tab} {ws : List V} {S : Nat → Nat → Prop} {B : Nat} (h : KnL H Ts ws S B) (k : NL H H') : KnL H' Ts ws S B :=
  ⟨h.1, fun j T e => let ⟨d, kvs, e1, e2, e3, e4⟩ := h.2 j T e; ⟨d, kvs, e1, k _ _ e2 (fun us z => by cases z), e3.keep k.tupK, e4⟩⟩
theorem KnL.same {H H' : Hp} {Ts : List Tab} {ws : List V} {S : Nat → Nat → Prop} {B : Nat} (h : KnL H Ts ws S B) (k : Same H H') : KnL H' Ts ws S B := h.keep (.same k)
theorem KnL.congr {H : Hp} {Ts : List Tab} {ws : List V} {S S' : Nat → Nat → Prop} {B : Nat} (h : KnL H Ts ws S B) (e : ∀ k m, S k m ↔ S' k m) : KnL H Ts ws S' B :=
  ⟨h.1, fun j T q => let ⟨d, kvs, e1, e2, e3, e4⟩ := h.2 j T q; ⟨d, kvs, e1, e2, e3.congr (e j), e4⟩⟩
theorem KnL.nil {H : Hp} {S : Nat → Nat → Prop} {B : Nat} : KnL H [] [] S B := ⟨rfl, fun k T e => by cases e⟩
theorem take_succ' {α : Type} {l : List α} {i : Nat} {x : α} (h : l[i]? = some x) : l.take (i + 1) = l.take i ++ [x] := by
  rw [List.take_add_one, h]
  rfl
theorem KnL.snoc {H : Hp} {Ts : List Tab} {ws : List V} {S : Nat → Nat → Prop} {B i : Nat} {T : Tab} {d : Addr} {kvs : List (L2.Key × V)} (h : KnL H (Ts.take i) ws S B) (hi : Ts[i]? = some T)
    (hd : H d = some (.dK kvs)) (hk : Kn H kvs T (S i)) (hl : kvs.length ≤ B) : KnL H (Ts.take (i + 1)) (ws ++ [.ref d]) S B := by
  have hlt : i < Ts.length := (List.getElem?_eq_some_iff.mp hi).1
  have hw : ws.length = i := by rw [h.1, List.length_take]; omega
  have e := take_succ' hi
  refine ⟨by rw [e, List.length_append, List.length_append, h.1]; rfl, fun k U q => ?_⟩
  by_cases hk' : k < i
  · have q' : (Ts.take i)[k]? = some U := by
      rw [e, List.getElem?_append_left (by rw [List.length_take]; omega)] at q
      exact q
    obtain ⟨d', kvs', e1, e2, e3, e4⟩ := h.2 k U q'
    exact ⟨d', kvs', by rw [List.getElem?_append_left (by omega)]; exact e1, e2, e3, e4⟩
  · have hk2 : k < i + 1 := by
      have := (List.getElem?_eq_some_iff.mp q).1
      rw [List.length_take] at this
      omega
    have ek : k = i := by omega
    subst ek
    rw [List.getElem?_take_of_lt (by omega), hi] at q
    cases q
    exact ⟨d, kvs, by rw [List.getElem?_append_right (by omega), hw, Nat.sub_self]; rfl, hd, hk, hl⟩
/-- how many lumps come to the table number k -/
def here : List Tab → Nat → Nat → Nat
  | _, n, 0 => n
  | [], n, _ + 1 => n
  | T :: Ts, n, k + 1 => here Ts (ups T.size n) k
theorem here_succ : ∀ {Ts : List Tab} {n i : Nat} {T : Tab}, Ts[i]? = some T → here Ts n (i + 1) = ups T.size (here Ts n i)
  | [], _, _, _, h => by cases h
  | U :: Us, n, 0, T, h => by
    have e : U = T := Option.some.inj h
    subst e
    show here Us (ups U.size n) 0 = ups U.size (here (U :: Us) n 0)
    cases Us <;> rfl
  | U :: Us, n, i + 1, T, h => by
    have h' : Us[i]? = some T := h
    exact here_succ (n := ups U.size n) h'
theorem here_zero (Ts : List Tab) (n : Nat) : here Ts n 0 = n := by cases Ts <;> rfl
theorem here_pos : ∀ {i : Nat} {Ts : List Tab} {n : Nat}, (∀ T ∈ Ts, Tab.Ok T) → 1 ≤ n → 1 ≤ here Ts n i ∧ here Ts n i ≤ n
  | 0, Ts, n, _, h => by
    rw [here_zero]
    omega
  | i + 1, [], n, _, h => ⟨h, Nat.le_refl _⟩
  | i + 1, T :: Ts, n, hT, h => by
    have hb := Tab.size_ge (hT T List.mem_cons_self)
    have h1 := ups_pos (b := T.size) (m := n) (by omega) h
    have h2 := ups_le (b := T.size) (m := n) (by omega)
    have ih := here_pos (i := i) (Ts := Ts) (n := ups T.size n) (fun U hU => hT U (List.mem_cons_of_mem _ hU)) h1
    show 1 ≤ here Ts (ups T.size n) i ∧ here Ts (ups T.size n) i ≤ n
    omega
/-- the table number k uses its entry m at n -/
def usesK (Ts : List Tab) (n k m : Nat) : Prop := ∃ T, Ts[k]? = some T ∧ usesAt T (here Ts n k) m
theorem drop_cons {Ts : List Tab} {i : Nat} {T : Tab} (h : Ts[i]? = some T) : Ts.drop i = T :: Ts.drop (i + 1) := by
  obtain ⟨hlt, e⟩ := List.getElem?_eq_some_iff.mp h
  rw [List.drop_eq_getElem_cons hlt, e]
theorem mem_of_get {Ts : List Tab} {i : Nat} {T : Tab} (h : Ts[i]? = some T) : T ∈ Ts := List.mem_of_getElem? h
theorem entry_two {T : Tab} (h : Tab.Ok T) : T.entry 2 = .p .o .o := by
  have hb := Tab.size_ge h
  have e := Tab.entry_size h (m := 2) (by omega) hb
  cases hE : T.entry 2 with
  | o => rw [hE] at e; cases e
  | p l r =>
    rw [hE] at e
    have e' : l.size + r.size = 2 := e
    have hl := size_pos l
    have hr := size_pos r
    rw [size_one (show l.size = 1 by omega), size_one (show r.size = 1 by omega)]
section
variable {P : Program} {w : World} {K : PySem.W.Frag} {mg : Str → Option Value} {base : Heap}
/-! ### nothing_known -/
theorem scNothing : FnScope ["sizes", "size"] ["sizes"] (defScope sNothing) := ⟨rfl, rfl, rfl, by decide +kernel, rfl, by decide +kernel, by decide +kernel⟩
def spNothing : Sp := fun vs H Q _ => ∃ (s : Addr) (Ts : List Tab), vs = [.ref s] ∧ Sq2 H s (tsz Ts) ∧ TsOk Ts ∧ Ts.length ≤ 1000 ∧
  ∀ d ws H', Same H H' → H d = none → H' d = some (.lst ws) → KnL H' Ts ws (fun _ m => m = 2) 1 → Q (.ref d) H'
theorem ok_nothing {f : Addr} {fd : FuncData} (F : Fun K "nothing_known" "nothing_known" sNothing f fd) : FnOk P w K mg base CX0 1 f fd ["sizes"] spNothing := by
  refine F.ok scNothing (fun vs H Q E h => ?_) (fun cdv A outer s H vs Q E hr h => ?_)
  · obtain ⟨_, _, rfl, _⟩ := h
    rfl
  obtain ⟨a, Ts, rfl, ha, hT, hl, q⟩ := h
  refine ⟨_, pss_one (ps_ret (pe_lc (own := [("size", 1)]) (g := gName 1) (tt := tYes) rfl scNothing.nd (pi_seqA (pv 0))
    (blkOk_by (own := [("size", 1)]) (N := ["sizes", "size"]) (sc := defScope sNothing) (by decide +kernel)) (fun _ _ _ _ _ => pg_name (i := 1) scNothing.nd rfl (.inl rfl)) (fun _ _ _ _ _ => pts_nil)
    (fun _ _ _ _ _ => pe_disp (pps_cons pe_int (pe_tup (pa_cons (pe_tup pa_nil) (pa_cons (pe_tup pa_nil) pa_nil))) pps_nil) (by rfl) (by rfl) (fun z => by cases z) (by decide)))), ?_⟩
  obtain ⟨m, hm⟩ := ha.sqA (K := K)
  refine ⟨_, rfl, m, a, _, rfl, hm _ (fun _ _ z => z), fun J wk D hD => ?_⟩
  refine lc_it wk (fun i H' => Same H H' ∧ ∃ ws, H' D = some (.lst ws) ∧ KnL H' (Ts.take i) ws (fun _ m => m = 2) 1) ⟨same_new hD, [], upd_same, by rw [List.take_zero]; exact .nil⟩ (fun _ _ _ h => hm _ h.1) (fun i x H0 H1 hi h y => ?_) (fun H' h => ?_)
  · obtain ⟨sm, ws, hd, hk⟩ := h
    obtain ⟨rfl, hx⟩ := y
    obtain ⟨T, eT, rfl⟩ := tsz_get hx
    have hTT := hT T (mem_of_get eT)
    refine ⟨rfl, yes_go ?_⟩
    refine fun p hp => ⟨le_line (by simp), fun e1 h1 => ⟨le_line (by simp), fun e2 h2 => ⟨le_line (by simp), fun t ht => ?_⟩⟩⟩
    have s0 := fun o => same_new (o := o) hp
    have s1 : Same (upd H1 p (.dK [])) (upd (upd H1 p (.dK [])) e1 (.tup [])) := same_new h1
    have s2 : Same (upd (upd H1 p (.dK [])) e1 (.tup [])) (upd (upd (upd H1 p (.dK [])) e1 (.tup [])) e2 (.tup [])) := same_new h2
    have s3 : Same (upd (upd (upd H1 p (.dK [])) e1 (.tup [])) e2 (.tup [])) (upd (upd (upd (upd H1 p (.dK [])) e1 (.tup [])) e2 (.tup [])) t (.tup [.ref e1, .ref e2])) := same_new ht
    have sA := s1.trans (s2.trans s3)
    refine ⟨sA _ _ upd_same, [(Sum.inl 2, .ref t)], rfl, by simp, ?_⟩
    have sB : Same H1 (upd (upd (upd (upd (upd H1 p (.dK [])) e1 (.tup [])) e2 (.tup [])) t (.tup [.ref e1, .ref e2])) p (.dK (mergeK [] [(Sum.inl 2, .ref t)]))) := same_wr ((s0 _).trans sA) hp
    refine ⟨ws, sB _ _ hd, ?_, ?_⟩
    · rw [hk.1, List.length_take]
      exact lt_line (by omega)
    · have nDp : D ≠ p := ne_of_none hd hp
      refine ⟨same_wr (sm.trans sB) hD, _, upd_same, ?_⟩
      have kD : NL (upd (upd (upd (upd (upd H1 p (.dK [])) e1 (.tup [])) e2 (.tup [])) t (.tup [.ref e1, .ref e2])) p (.dK (mergeK [] [(Sum.inl 2, .ref t)]))) (upd (upd (upd (upd (upd (upd H1 p (.dK [])) e1 (.tup [])) e2 (.tup [])) t (.tup [.ref e1, .ref e2])) p (.dK (mergeK [] [(Sum.inl 2, .ref t)]))) D (.lst (ws ++ [.ref p]))) := NL.wr (sB _ _ hd)
      refine KnL.snoc (kvs := [(Sum.inl 2, .ref t)]) ((hk.same sB).keep kD) eT (by rw [upd_ne (Ne.symm nDp)]; exact upd_same) ?_ (Nat.le_refl _)
      have kT : TupK (upd (upd (upd (upd H1 p (.dK [])) e1 (.tup [])) e2 (.tup [])) t (.tup [.ref e1, .ref e2])) (upd (upd (upd (upd (upd H1 p (.dK [])) e1 (.tup [])) e2 (.tup [])) t (.tup [.ref e1, .ref e2])) p (.dK (mergeK [] [(Sum.inl 2, .ref t)]))) := fun b xs hb => by
        rw [upd_ne (ne_of hb (sA _ _ upd_same) (by intro z; cases z))]
        exact hb
      have hsh : ShV (upd (upd (upd (upd H1 p (.dK [])) e1 (.tup [])) e2 (.tup [])) t (.tup [.ref e1, .ref e2])) (T.entry 2) (.ref t) := by
        rw [entry_two hTT.1]
        exact ⟨t, _, _, rfl, upd_same, ⟨e1, rfl, s3 _ _ (s2 _ _ upd_same)⟩, ⟨e2, rfl, s3 _ _ upd_same⟩⟩
      have hsh' := (hsh.keep kT).keep kD.tupK
      refine ⟨fun k v e => ?_, fun j hj => ⟨.ref t, ?_⟩⟩
      · have e' : (if k = Sum.inl 2 then some (V.ref t) else none) = some v := by
          by_cases hk2 : k = Sum.inl 2
          · rw [if_pos hk2]
            subst hk2
            exact e
          · have en : valV [((Sum.inl 2 : L2.Key), V.ref t)] k = none := by
              have := valV_put [] (Sum.inl 2) k (V.ref t)
              rw [if_neg hk2] at this
              exact this
            rw [en] at e
            cases e
        by_cases hk2 : k = Sum.inl 2
        · rw [if_pos hk2] at e'
          cases e'
          exact ⟨2, hk2, rfl, hsh'⟩
        · rw [if_neg hk2] at e'
          cases e'
      · have hj' : j = 2 := hj
        subst hj'
        rfl
  · obtain ⟨sm, ws, hd, hk⟩ := h
    rw [tsz_len, List.take_length] at hk
    exact q D ws H' sm hD hd hk
/-! ### read_pair -/
theorem scPair : FnScope ["sizes", "end", "known", "shape", "found", "k", "size", "level"] ["sizes", "end", "known", "shape"] (defScope sReadPair) := ⟨rfl, rfl, rfl, by decide +kernel, rfl, by decide +kernel, by decide +kernel⟩
def spPair : Sp := fun vs H Q _ => ∃ (s d : Addr) (left : Bool) (v : V) (Ts : List Tab) (ws : List V) (S : Nat → Nat → Prop) (n B : Nat), vs = [.ref s, .str (sideS left), .ref d, v] ∧ Sq2 H s (tsz Ts) ∧ TsOk Ts ∧ Ts.length ≤ 1000 ∧
  H d = some (.lst ws) ∧ KnL H Ts ws S B ∧ B ≤ 5000 ∧ 1 ≤ n ∧ n ≤ 60 ∧ ShV H (tell left Ts n) v ∧
  ∀ d' ws' H', Same H H' → H d' = none → H' d' = some (.lst ws') → KnL H' Ts ws' (fun k m => S k m ∨ usesK Ts n k m) (B + 60) → Q (.ref d') H'
theorem ok_pair {f fL fS fC : Addr} {fd fdL fdS fdC : FuncData} (F : Fun K "read_pair" "read_pair" sReadPair f fd) (DL : Df K mg "read_level" sReadLevel ["known", "size", "shape"] fL fdL) (GL : FnOk P w K mg base CX0 62 fL fdL ["known", "size", "shape"] spLevel)
    (DS : Df K mg "size_of" sSizeOf ["shape"] fS fdS) (DC : Df K mg "comb" sComb ["n", "side"] fC fdC) (mr : mg "range" = none) (me : mg "enumerate" = none) :
    FnOk P w K mg base CX0 63 f fd ["sizes", "end", "known", "shape"] spPair := by
  have GS : FnOk P w K mg base CX0 1 fS fdS ["shape"] spSizeOf := ok_size_of DS.fn
  have GC : FnOk P w K mg base CX0 1 fC fdC ["n", "side"] spComb := ok_comb DC.fn mr
  refine F.ok scPair (fun vs H Q E h => ?_) (fun cdv A outer s H vs Q E hr h => ?_)
  · obtain ⟨_, _, _, _, _, _, _, _, _, rfl, _⟩ := h
    rfl
  obtain ⟨a, d, left, v, Ts, ws, S, n, B, rfl, ha, hT, hTl, hd, hk, hB, hn1, hn60, hv, q⟩ := h
  have hr1 : Room 1 (A.deeper (envOfC "read_pair" (defScope sReadPair) s.heap.objs.size f cdv)) := hr.mono (by decide)
  refine ⟨_, pss_cons (ps_set (i := 4) scPair.nd rfl (.inl rfl) (pe_lst pa_nil))
    (pss_cons (ps_for PassesOwn.never rfl (pi_enumA (by rfl) me (pa_cons (pv 0) pa_nil)) (pg_tup rfl (pgs_cons (pg_name (i := 5) scPair.nd rfl (.inl rfl)) (pgs_cons (pg_name (i := 6) scPair.nd rfl (.inl rfl)) pgs_nil)))
      (pss_cons (ps_set (i := 7) scPair.nd rfl (.inl rfl) (pe_df DL GL hr (by rfl) (pa_cons (pe_ix ix_list (pv 2) (pv 5) (fun _ _ => rfl)) (pa_cons (pv 6) (pa_cons (pv 3) pa_nil)))))
      (pss_cons (ps_if (pt_cmpR op_isN (pv 7) pe_non (nomark _)) (pss_one (ps_ret pe_non)) pss_nil)
      (pss_cons (ps_expr (pe_bm PySem.F.plainAttrs_list PySem.F.slot_list_append PySem.F.type_list_append mt_append (pv 4) (pa_cons (pe_ix ix_tup (pv 7) pe_int (fun _ _ => rfl)) pa_nil)))
      (pss_one (ps_set (i := 3) scPair.nd rfl (.inl rfl) (pe_ix ix_tup (pv 7) pe_int (fun _ _ => rfl))))))))
    (pss_one (ps_ret (pe_ifExp (pt_cmpR (op_eqD hr.units) (pv 3) (pe_df DC GC hr1 (by rfl) (pa_cons (pe_df DS GS hr1 (by rfl) (pa_cons (pv 3) pa_nil)) (pa_cons (pv 1) pa_nil))) (nomark _)) (pv 4) pe_non)))), ?_⟩
  obtain ⟨m, hm⟩ := ha.sqA (K := K)
  refine ⟨le_line (Nat.zero_le _), fun p hp => ?_⟩
  have s0 : Same H (upd H p (.lst [])) := same_new hp
  refine ⟨_, rfl, m, a, _, rfl, hm _ s0, fun J wk => ?_⟩
  refine for_it wk (fun i σ H' => ∃ u y5 y6 y7 us, σ = [some (.ref a), some (.str (sideS left)), some (.ref d), some u, some (.ref p), y5, y6, y7] ∧ Same H H' ∧ H' p = some (.lst us) ∧
    KnL H' (Ts.take i) us (fun k m => S k m ∨ usesK Ts n k m) (B + 60) ∧ ShV H' (tell left (Ts.drop i) (here Ts n i)) u) ⟨v, _, _, _, [], rfl, s0, upd_same, by rw [List.take_zero]; exact .nil, by rw [List.drop_zero, here_zero]; exact hv.same s0⟩
    (fun i σ H' _ h => ?_) (fun i x σ H1 H2 hi h y => ?_) (fun σ H' h => ?_)
  · obtain ⟨_, _, _, _, _, _, sm, _⟩ := h
    exact hm _ sm
  · obtain ⟨u, y5, y6, y7, us, rfl, sm, hpu, hkn, hu⟩ := h
    obtain ⟨T2, x1, x2, rfl, nT, rfl, f1, f2⟩ := y
    have s2 : Same H1 (upd H1 T2 (.tup [x1, x2])) := same_new nT
    obtain ⟨T, eT, rfl⟩ := tsz_get f2
    cases f1
    have hTT := hT T (mem_of_get eT)
    obtain ⟨d1, kvs, e1, e2, e3, e4⟩ := hk.2 i T eT
    have hp1 := here_pos (i := i) (n := n) hT.ok hn1
    have sA := sm.trans s2
    refine ⟨T2, _, rfl, SqT.of upd_same, rfl, _, _, rfl, _, [], rfl, rfl, ?_⟩
    rw [drop_cons eT] at hu
    refine ⟨_, rfl, _, rfl, d, ws, i, .ref d1, rfl, rfl, SqL.of (sA _ _ hd), atI_nat e1, _, rfl, u, rfl, d1, T, u, kvs, tell left (Ts.drop (i + 1)) (ups T.size (here Ts n i)), here Ts n i, S i, rfl, hTT.1, hTT.2, by omega, by omega,
      hu.same s2, ?_, sA _ _ e2, e3.same sA, by omega, fun t d' u' kvs' H3 s3 nd' ht hd' hk' hl' hu' => ?_⟩
    · exact tell_size left _ _ (fun U hU => hT.ok U (List.mem_of_mem_drop hU)) (ups_pos (by have := Tab.size_ge hTT.1; omega) hp1.1)
    · refine ⟨_, rfl, rfl, _, rfl, iteF ?_⟩
      have sC := s2.trans s3
      have hpu3 := sC _ _ hpu
      refine ⟨.ref p, rfl, .inl ⟨rfl, _, .inl (.inl hpu3)⟩, _, rfl, t, _, 0, .ref d', rfl, rfl, SqT.of ht, atI_nat (j := 0) rfl, p, us, .ref d', rfl, rfl, hpu3, ?_, ?_⟩
      · rw [hkn.1, List.length_take]
        exact lt_line (by omega)
      · have kW : NL H3 (upd H3 p (.lst (us ++ [.ref d']))) := NL.wr hpu3
        refine ⟨_, rfl, t, _, 1, u', rfl, rfl, SqT.of (kW.tupK _ _ ht), atI_nat (j := 1) rfl, _, _, _, _, _, rfl, same_wr (sm.trans sC) hp, upd_same, ?_, ?_⟩
        · refine KnL.snoc ((hkn.same sC).keep kW) eT (kW _ _ hd' (fun us z => by cases z)) ((hk'.keep kW.tupK).congr fun j => ?_) (by omega)
          constructor
          · rintro (z | z)
            · exact .inl z
            · exact .inr ⟨T, eT, z⟩
          · rintro (z | ⟨U, eU, z⟩)
            · exact .inl z
            · rw [eT] at eU
              cases eU
              exact .inr z
        · rw [here_succ eT]
          exact hu'.keep kW.tupK
  · obtain ⟨u, y5, y6, y7, us, rfl, sm, hpu, hkn, hu⟩ := h
    rw [tsz_len, List.take_length] at hkn
    rw [tsz_len, List.drop_length] at hu
    have hp1 := here_pos (i := Ts.length) (n := n) hT.ok hn1
    have hu2 : ShV H' (comb left (here Ts n Ts.length - 1)) u := hu
    have hz : (comb left (here Ts n Ts.length - 1)).size = here Ts n Ts.length := by
      rw [comb_size]
      omega
    refine ⟨u, rfl, u, rfl, u, _, rfl, hu2, by omega, fun H3 s3 => ⟨_, rfl, here Ts n Ts.length - 1, left, ?_, by omega, fun v2 H4 s4 hv2 => ?_⟩⟩
    · rw [comb_size]
      rfl
    · have sB := s3.trans s4
      refine ⟨_, _, (hu2.same sB).dp, hv2.dp, dat_shaped (by omega), dat_shaped (by omega), _, rfl, ?_⟩
      rw [dat_eqv, decide_eq_true rfl]
      exact iteT ⟨_, rfl, q p us H4 (sm.trans sB) hp (sB _ _ hpu) (hkn.same sB)⟩
end
end Lp
set_option Elab.async false
set_option linter.all false
set_option maxRecDepth 100000
set_option maxHeartbeats 4000000
/-! fits_shape, entries_told. -/
namespace Lp
open PySem PySem.Spec PyProof.Rows L2 Sh
def bodyS : Stmt → List Stmt
  | .FunctionDef _ _ b _ _ _ _ _ _ _ => b
  | _ => []
def lcScope : Expr → Scope
  | .ListComp _ _ s _ => s
  | _ => ⟨.function, [], false, false, []⟩
def retScope : Option Stmt → Scope
  | some (.Return (some e) _) => lcScope e
  | _ => ⟨.function, [], false, false, []⟩
def tolScope : Scope := ⟨.function, [(".0", .local), ("size", .local), ("told", .cell), ("range", .globalImplicit)], false, false, []⟩
/-- the entries that are due -/
def Due (Ts : List Tab) (ns : List Nat) (k m : Nat) : Prop := m = 2 ∨ ∃ n ∈ ns, usesK Ts n k m
def PairsAt (H : Hp) (left : Bool) (Ts : List Tab) (ns : List Nat) (xs : List V) : Prop :=
  xs.length = ns.length ∧ ∀ (i n : Nat), ns[i]? = some n → ∃ t v, xs[i]? = some (.ref t) ∧ H t = some (.tup [.int (n : Nat), v]) ∧ ShV H (tell left Ts n) v
theorem PairsAt.keep {H H' : Hp} {left : Bool} {Ts : List Tab} {ns : List Nat} {xs : List V} (h : PairsAt H left Ts ns xs) (k : TupK H H') : PairsAt H' left Ts ns xs :=
  ⟨h.1, fun i n e => let ⟨t, v, e1, e2, e3⟩ := h.2 i n e; ⟨t, v, e1, k _ _ e2, e3.keep k⟩⟩
/-- a row of entries -/
def RowTo (H : Hp) (T : Tab) (S : Nat → Prop) (i : Nat) (us : List V) : Prop :=
  us.length = i ∧ ∀ j, j < i → ∃ u, us[j]? = some u ∧ ((S (j + 2) ∧ ShV H (T.entry (j + 2)) u) ∨ (¬ S (j + 2) ∧ u = .non))
theorem RowTo.keep {H H' : Hp} {T : Tab} {S : Nat → Prop} {i : Nat} {us : List V} (h : RowTo H T S i us) (k : TupK H H') : RowTo H' T S i us :=
  ⟨h.1, fun j q => let ⟨u, e1, e2⟩ := h.2 j q; ⟨u, e1, e2.elim (fun z => .inl ⟨z.1, z.2.keep k⟩) .inr⟩⟩
theorem RowTo.snoc {H : Hp} {T : Tab} {S : Nat → Prop} {i : Nat} {us : List V} {u : V} (h : RowTo H T S i us) (hu : (S (i + 2) ∧ ShV H (T.entry (i + 2)) u) ∨ (¬ S (i + 2) ∧ u = .non)) : RowTo H T S (i + 1) (us ++ [u]) := by
  refine ⟨by rw [List.length_append, h.1]; rfl, fun j hj => ?_⟩
  by_cases q : j < i
  · obtain ⟨v, e1, e2⟩ := h.2 j q
    exact ⟨v, by rw [List.getElem?_append_left (by rw [h.1]; exact q)]; exact e1, e2⟩
  · have e : j = i := by omega
    subst e
    exact ⟨u, by rw [List.getElem?_append_right (by rw [h.1]; exact Nat.le_refl _), h.1, Nat.sub_self]; rfl, hu⟩
/-- the rows of the first i tables: new lists, other than p -/
def RowsTo (H0 H : Hp) (p : Addr) (Ts : List Tab) (S : Nat → Nat → Prop) (i : Nat) (rows : List V) : Prop :=
  rows.length = i ∧ ∀ k T, k < i → Ts[k]? = some T → ∃ r us, rows[k]? = some (.ref r) ∧ H0 r = none ∧ r ≠ p ∧ H r = some (.lst us) ∧ RowTo H T (S k) T.length us
theorem RowsTo.wr {H0 H H' : Hp} {p : Addr} {Ts : List Tab} {S : Nat → Nat → Prop} {i : Nat} {rows : List V} (h : RowsTo H0 H p Ts S i rows) (k : TupK H H') (kl : ∀ b us, b ≠ p → H b = some (.lst us) → H' b = some (.lst us)) : RowsTo H0 H' p Ts S i rows :=
  ⟨h.1, fun j T q e => let ⟨r, us, e1, e2, e3, e4, e5⟩ := h.2 j T q e; ⟨r, us, e1, e2, e3, kl r us e3 e4, e5.keep k⟩⟩
theorem RowsTo.same {H0 H H' : Hp} {p : Addr} {Ts : List Tab} {S : Nat → Nat → Prop} {i : Nat} {rows : List V} (h : RowsTo H0 H p Ts S i rows) (k : Same H H') : RowsTo H0 H' p Ts S i rows := h.wr (Same.tupK k) fun b us _ e => k _ _ e
theorem RowsTo.snoc {H0 H : Hp} {p : Addr} {Ts : List Tab} {S : Nat → Nat → Prop} {i : Nat} {rows : List V} {r : Addr} {us : List V} {T : Tab} (h : RowsTo H0 H p Ts S i rows) (eT : Ts[i]? = some T) (h0 : H0 r = none) (hp : r ≠ p) (hr : H r = some (.lst us)) (hR : RowTo H T (S i) T.length us) :
    RowsTo H0 H p Ts S (i + 1) (rows ++ [.ref r]) := by
  refine ⟨by rw [List.length_append, h.1]; rfl, fun j U hj eU => ?_⟩
  by_cases q : j < i
  · obtain ⟨r', us', e1, e2⟩ := h.2 j U q eU
    exact ⟨r', us', by rw [List.getElem?_append_left (by rw [h.1]; exact q)]; exact e1, e2⟩
  · have e : j = i := by omega
    subst e
    rw [eT] at eU
    cases eU
    exact ⟨r, us, by rw [List.getElem?_append_right (by rw [h.1]; exact Nat.le_refl _), h.1, Nat.sub_self]; rfl, h0, hp, hr, hR⟩
section
variable {P : Program} {w : World} {K : PySem.W.Frag} {mg : Str → Option Value} {base : Heap}
/-! ### fits_shape -/
theorem scFits : FnScope ["sizes", "end", "n", "shape"] ["sizes", "end", "n", "shape"] (defScope sFits) := ⟨rfl, rfl, rfl, by decide +kernel, rfl, by decide +kernel, by decide +kernel⟩
def spFits : Sp := fun vs H Q _ => ∃ (s : Addr) (left : Bool) (v : V) (Ts : List Tab) (n : Nat), vs = [.ref s, .str (sideS left), .int (n : Nat), v] ∧ Sq2 H s (tsz Ts) ∧ TsOk Ts ∧ Ts.length ≤ 1000 ∧ 1 ≤ n ∧ n ≤ 60 ∧ ShV H (tell left Ts n) v ∧
  ∀ H', Same H H' → Q (.bl true) H'
theorem ok_fits {f fI fS fP fN : Addr} {fd fdI fdS fdP fdN : FuncData} (F : Fun K "fits_shape" "fits_shape" sFits f fd) (DI : Df K mg "is_shape" sIsShape ["value"] fI fdI) (GI : FnOk P w K mg base CX0 62 fI fdI ["value"] spIsShape)
    (DS : Df K mg "size_of" sSizeOf ["shape"] fS fdS) (DP : Df K mg "read_pair" sReadPair ["sizes", "end", "known", "shape"] fP fdP) (GP : FnOk P w K mg base CX0 63 fP fdP ["sizes", "end", "known", "shape"] spPair)
    (DN : Df K mg "nothing_known" sNothing ["sizes"] fN fdN) : FnOk P w K mg base CX0 64 f fd ["sizes", "end", "n", "shape"] spFits := by
  have GS : FnOk P w K mg base CX0 1 fS fdS ["shape"] spSizeOf := ok_size_of DS.fn
  have GN : FnOk P w K mg base CX0 1 fN fdN ["sizes"] spNothing := ok_nothing DN.fn
  refine F.ok scFits (fun vs H Q E h => ?_) (fun cdv A outer s H vs Q E hr h => ?_)
  · obtain ⟨_, _, _, _, _, rfl, _⟩ := h
    rfl
  obtain ⟨a, left, v, Ts, n, rfl, ha, hT, hTl, hn1, hn60, hv, q⟩ := h
  have hr1 : Room 1 (A.deeper (envOfC "fits_shape" (defScope sFits) s.heap.objs.size f cdv)) := hr.mono (by decide)
  have hr62 : Room 62 (A.deeper (envOfC "fits_shape" (defScope sFits) s.heap.objs.size f cdv)) := hr.mono (by decide)
  refine ⟨_, pss_cons (ps_if (PW.pt (pw_or (pt_not (pt_val (pe_df DI GI hr62 (by rfl) (pa_cons (pv 3) pa_nil)))) (pw_or1 (pt_cmpR op_ne (pe_df DS GS hr1 (by rfl) (pa_cons (pv 3) pa_nil)) (pv 2) (nomark _))))) pss_never pss_nil)
    (pss_one (ps_ret (pe_cmpR op_notN (pe_df DP GP hr (by rfl) (pa_cons (pv 0) (pa_cons (pv 1) (pa_cons (pe_df DN GN hr1 (by rfl) (pa_cons (pv 0) pa_nil)) (pa_cons (pv 3) pa_nil))))) pe_non (nomark _)))), ?_⟩
  have hz := tell_size left Ts n hT.ok hn1
  refine ⟨v, rfl, v, _, rfl, hv, by omega, fun H1 s1 => ⟨true, rfl, ?_⟩⟩
  refine iteF ⟨v, rfl, v, _, rfl, hv.same s1, by omega, fun H2 s2 => ?_⟩
  have sA := s1.trans s2
  rw [hz]
  refine ⟨_, rfl, rfl, _, rfl, ?_⟩
  rw [decide_eq_true rfl]
  refine iteF ⟨_, rfl, _, rfl, _, rfl, a, Ts, rfl, ha.same sA, hT, hTl, fun d ws H3 s3 nd hd hk => ?_⟩
  have sB := sA.trans s3
  refine ⟨v, rfl, a, d, left, v, Ts, ws, _, n, 1, rfl, ha.same sB, hT, hTl, hd, hk, by omega, hn1, hn60, hv.same sB, fun d' ws' H4 s4 _ _ _ => ⟨rfl, ?_⟩⟩
  exact q H4 (sB.trans s4)
/-! ### entries_told -/
theorem scTold : FnScope ["sizes", "end", "pairs", "known", "number", "pair", "size", "told", "m"] ["sizes", "end", "pairs"] (defScope sTold) := ⟨rfl, rfl, rfl, by decide +kernel, rfl, by decide +kernel, by decide +kernel⟩
def spTold : Sp := fun vs H Q _ => ∃ (s a : Addr) (left : Bool) (Ts : List Tab) (ns : List Nat) (xs : List V), vs = [.ref s, .str (sideS left), .ref a] ∧ Sq2 H s (tsz Ts) ∧ TsOk Ts ∧ Ts.length ≤ 1000 ∧ Sq2 H a xs ∧ (∀ n ∈ ns, 1 ≤ n ∧ n ≤ 60) ∧ ns.length ≤ 60 ∧
  PairsAt H left Ts ns xs ∧ ∀ p rows H', Same H H' → H p = none → H' p = some (.lst rows) → RowsTo H H' p Ts (Due Ts ns) Ts.length rows → Q (.ref p) H'
theorem ok_told {f fP fN : Addr} {fd fdP fdN : FuncData} (F : Fun K "entries_told" "entries_told" sTold f fd) (DP : Df K mg "read_pair" sReadPair ["sizes", "end", "known", "shape"] fP fdP) (GP : FnOk P w K mg base CX0 63 fP fdP ["sizes", "end", "known", "shape"] spPair)
    (DN : Df K mg "nothing_known" sNothing ["sizes"] fN fdN) (me : mg "enumerate" = none) (mr : mg "range" = none) (mz : mg "zip" = none) : FnOk P w K mg base CX0 64 f fd ["sizes", "end", "pairs"] spTold := by
  have GN : FnOk P w K mg base CX0 1 fN fdN ["sizes"] spNothing := ok_nothing DN.fn
  refine F.ok scTold (fun vs H Q E h => ?_) (fun cdv A outer s H vs Q E hr h => ?_)
  · obtain ⟨_, _, _, _, _, _, rfl, _⟩ := h
    rfl
  obtain ⟨a, b, left, Ts, ns, xs, rfl, ha, hT, hTl, hb, hns, hnl, hxs, q⟩ := h
  have hr1 : Room 1 (A.deeper (envOfC "entries_told" (defScope sTold) s.heap.objs.size f cdv)) := hr.mono (by decide)
  have hu1 : (A.deeper (envOfC "entries_told" (defScope sTold) s.heap.objs.size f cdv)).units + 1 < cLine := Nat.lt_of_le_of_lt (Nat.add_le_add_left (by decide) _) hr.units
  refine ⟨_, pss_cons (ps_set (i := 3) scTold.nd rfl (.inl rfl) (pe_df DN GN hr1 (by rfl) (pa_cons (pv 0) pa_nil)))
    (pss_cons (ps_for PassesOwn.never rfl (pi_enumA (by rfl) me (pa_cons (pv 2) pa_nil)) (pg_tup rfl (pgs_cons (pg_name (i := 4) scTold.nd rfl (.inl rfl)) (pgs_cons (pg_name (i := 5) scTold.nd rfl (.inl rfl)) pgs_nil)))
      (pss_cons (ps_set (i := 3) scTold.nd rfl (.inl rfl) (pe_df DP GP hr (by rfl) (pa_cons (pv 0) (pa_cons (pv 1) (pa_cons (pv 3) (pa_cons (pe_ix ix_tup (pv 5) pe_int (fun _ _ => rfl)) pa_nil))))))
      (pss_one (ps_if (pt_cmpR op_isN (pv 3) pe_non (nomark _)) pss_never pss_nil))))
    (pss_one (ps_ret (pe_lc (own := [("size", 6), ("told", 7)]) (g := gTup K 2 (gCons (gName 6) (gCons (gName 7) gNil))) (tt := tYes) rfl scTold.nd (pi_zipS (by rfl) mz (pa_cons (pv 0) (pa_cons (pv 3) pa_nil)))
      (blkOk_by (own := [("size", 6), ("told", 7)]) (N := ["sizes", "end", "pairs", "known", "number", "pair", "size", "told", "m"]) (sc := defScope sTold) (by decide +kernel))
      (fun _ _ _ _ _ => pg_tup rfl (pgs_cons (pg_name (i := 6) scTold.nd rfl (.inl rfl)) (pgs_cons (pg_name (i := 7) scTold.nd rfl (.inr rfl)) pgs_nil))) (fun _ _ _ _ _ => pts_nil)
      (fun _ _ _ _ _ => pe_lc (own := [("m", 8)]) (g := gName 8) (tt := tYes) rfl scTold.nd (pi_range2 (by rfl) mr (pa_cons pe_int (pa_cons (pe_op op_add (pv 6) pe_int) pa_nil)))
        (blkOk_by (own := [("m", 8)]) (N := ["sizes", "end", "pairs", "known", "number", "pair", "size", "told", "m"]) (sc := relS tolScope (defScope sTold)) (by decide +kernel))
        (fun _ _ _ _ _ => pg_name (i := 8) scTold.nd rfl (.inl rfl)) (fun _ _ _ _ _ => pts_nil)
        (fun _ _ _ _ _ => pe_dget1 hu1 (pv 7) (pv 8) ⟨rfl, rfl, rfl, rfl⟩)))))), ?_⟩
  refine ⟨_, rfl, a, Ts, rfl, ha, hT, hTl, fun d0 ws0 H1 s1 nd0 hd0 hk0 => ?_⟩
  obtain ⟨m, hm⟩ := hb.sqA (K := K)
  refine ⟨_, rfl, m, b, _, rfl, hm _ s1, fun J wk => ?_⟩
  refine for_it wk (fun i σ H' => ∃ d ws y4 y5, σ = [some (.ref a), some (.str (sideS left)), some (.ref b), some (.ref d), y4, y5, none, none, none] ∧ Same H H' ∧ H' d = some (.lst ws) ∧ KnL H' Ts ws (Due Ts (ns.take i)) (1 + 60 * i))
    ⟨d0, ws0, _, _, rfl, s1, hd0, hk0.congr fun k m => ⟨.inl, fun z => z.elim id fun ⟨n, hn, _⟩ => by simp at hn⟩⟩ (fun i σ H' _ h => ?_) (fun i x σ H2 H3 hi h y => ?_) (fun σ H' h => ?_)
  · obtain ⟨_, _, _, _, _, sm, _⟩ := h
    exact hm _ sm
  · obtain ⟨d, ws, y4, y5, rfl, sm, hd, hk⟩ := h
    obtain ⟨T2, x1, x2, rfl, nT, rfl, f1, f2⟩ := y
    have s2 : Same H2 (upd H2 T2 (.tup [x1, x2])) := same_new nT
    have hin : i < ns.length := by
      rw [← hxs.1]
      exact hi
    obtain ⟨t, v, e1, e2, e3⟩ := hxs.2 i _ (List.getElem?_eq_getElem hin)
    have f2' : xs[i]? = some x2 := f2
    rw [e1] at f2'
    cases f2'
    have sA := sm.trans s2
    have hn := hns _ (List.getElem_mem hin)
    refine ⟨T2, _, rfl, SqT.of upd_same, rfl, _, _, rfl, _, [], rfl, rfl, ?_⟩
    refine ⟨_, rfl, _, rfl, _, rfl, _, rfl, t, _, 1, v, rfl, rfl, SqT.of (sA _ _ e2), atI_nat (j := 1) rfl, a, d, left, v, Ts, ws, _, ns[i], 1 + 60 * i, rfl, ha.same sA, hT, hTl, s2 _ _ hd, hk.same s2, by omega, hn.1, hn.2, e3.same sA, fun d' ws' H4 s4 nd' hd' hk' => ?_⟩
    refine ⟨_, rfl, rfl, _, rfl, iteF ⟨d', ws', _, _, rfl, sA.trans s4, hd', ?_⟩⟩
    have e : 1 + 60 * i + 60 = 1 + 60 * (i + 1) := by omega
    rw [e] at hk'
    refine hk'.congr fun k m => ?_
    unfold Due
    rw [take_succ' (List.getElem?_eq_getElem hin)]
    constructor
    · rintro ((z | ⟨n, hn, z⟩) | z)
      · exact .inl z
      · exact .inr ⟨n, List.mem_append_left _ hn, z⟩
      · exact .inr ⟨_, List.mem_append_right _ (List.mem_singleton.mpr rfl), z⟩
    · rintro (z | ⟨n, hn, z⟩)
      · exact .inl (.inl z)
      · rcases List.mem_append.mp hn with hn | hn
        · exact .inl (.inr ⟨n, hn, z⟩)
        · rw [List.mem_singleton.mp hn] at z
          exact .inr z
  · obtain ⟨d, ws, y4, y5, rfl, sm, hd, hk⟩ := h
    rw [hxs.1, List.take_length] at hk
    obtain ⟨m2, hm2⟩ := ha.sqA (K := K)
    refine ⟨_, rfl, _, rfl, m2, a, d, tsz Ts, ws, rfl, hm2 _ sm, SqL.of hd, by rw [tsz_len, hk.1], fun J2 wk2 D hD => ?_⟩
    refine lc_it wk2 (fun i H2 => Same H' H2 ∧ ∃ rows, H2 D = some (.lst rows) ∧ RowsTo H' H2 D Ts (Due Ts ns) i rows) ⟨same_new hD, [], upd_same, rfl, fun k T hk => absurd hk (Nat.not_lt_zero k)⟩ (fun i H2 _ h => ?_) (fun i x H2 H3 hi h y => ?_) (fun H2 h => ?_)
    · exact ⟨hm2 _ (sm.trans h.1), SqL.of (h.1 _ _ hd)⟩
    · obtain ⟨s2, rows, hrD, hrows⟩ := h
      obtain ⟨T2, x1, x2, rfl, nT, rfl, f1, f2⟩ := y
      have s3 : Same H2 (upd H2 T2 (.tup [x1, x2])) := same_new nT
      obtain ⟨T, eT, rfl⟩ := tsz_get f1
      obtain ⟨c, kvs, g1, g2, g3, g4⟩ := hk.2 i T eT
      have f2' : ws[i]? = some x2 := f2
      rw [g1] at f2'
      cases f2'
      have hTT := hT T (mem_of_get eT)
      have sB := s2.trans s3
      refine ⟨T2, _, rfl, SqT.of upd_same, rfl, _, _, rfl, _, [], rfl, rfl, rfl, yes_go ?_⟩
      refine ⟨_, rfl, _, _, rfl, rfl, 2, _, rfl, ⟨by omega, by omega, by omega, by omega⟩, fun R hR => ?_⟩
      have eN : (((T.size : Nat) : Int) + 1 - 2).toNat = T.length := by
        unfold Tab.size
        omega
      rw [eN]
      refine lc_it walk_range (fun j H4 => Same (upd H2 T2 (.tup [.int (T.size : Nat), .ref c])) H4 ∧ ∃ us, H4 R = some (.lst us) ∧ RowTo H4 T (Due Ts ns i) j us) ⟨same_new hR, [], upd_same, rfl, fun k hk => absurd hk (Nat.not_lt_zero k)⟩ (fun _ _ _ _ => trivial) (fun j x H4 H5 hj h y => ?_) (fun H4 h => ?_)
      · obtain ⟨s4, us, hus, hrow⟩ := h
        obtain ⟨rfl, rfl⟩ := y
        have sC := sB.trans s4
        refine ⟨rfl, yes_go ?_⟩
        refine ⟨_, rfl, c, rfl, .inl ⟨kvs, .inl (sC _ _ g2)⟩, _, rfl, valV kvs (Sum.inl ((j + 2 : Nat) : Int)), .inl ⟨kvs, Sum.inl ((j + 2 : Nat) : Int), .inl (sC _ _ g2), ?_, rfl⟩, us, hus, ?_, same_wr s4 hR, _, upd_same, ?_⟩
        · show V.int (2 + ((j : Nat) : Int)) = V.int ((j + 2 : Nat) : Int)
          congr 1
          omega
        · rw [hrow.1]
          have := hTT.2
          unfold Tab.size at this
          exact lt_line (by omega)
        · have kW : NL H5 (upd H5 R (.lst (us ++ [(valV kvs (Sum.inl ((j + 2 : Nat) : Int))).getD .non]))) := NL.wr hus
          refine (hrow.keep kW.tupK).snoc ?_
          have g5 := ((g3.same sC).keep kW.tupK)
          cases hv : valV kvs (Sum.inl ((j + 2 : Nat) : Int) : L2.Key) with
          | none =>
            refine .inr ⟨fun z => ?_, rfl⟩
            obtain ⟨v, ev⟩ := g5.2 _ z
            rw [hv] at ev
            cases ev
          | some v =>
            obtain ⟨m', em, hS, hsh⟩ := g5.1 _ _ hv
            have em' := inl_nat.mp em
            subst em'
            refine .inl ⟨hS, ?_⟩
            rw [hv] at hsh
            exact hsh
      · obtain ⟨s4, us, hus, hrow⟩ := h
        have sC := s3.trans s4
        have nR : H' R = none := Same.free sB hR
        have nRD : R ≠ D := fun z => by
          subst z
          have := s3 _ _ hrD
          rw [hR] at this
          cases this
        refine ⟨rows, sC _ _ hrD, ?_, same_wr (s2.trans sC) hD, _, upd_same, ?_⟩
        · rw [hrows.1]
          rw [tsz_len] at hi
          exact lt_line (by omega)
        · have kW : NL H4 (upd H4 D (.lst (rows ++ [.ref R]))) := NL.wr (sC _ _ hrD)
          refine ((hrows.same sC).wr kW.tupK fun b us hb e => by rw [upd_ne hb]; exact e).snoc eT nR nRD (by rw [upd_ne nRD]; exact hus) (hrow.keep kW.tupK)
    · obtain ⟨s2, rows, hrD, hrows⟩ := h
      rw [tsz_len] at hrows
      have nD : H D = none := Same.free sm hD
      refine q D rows H2 (sm.trans s2) nD hrD ⟨hrows.1, fun k T hk eT => ?_⟩
      obtain ⟨r, us, e1, e2, e3⟩ := hrows.2 k T hk eT
      exact ⟨r, us, e1, Same.free sm e2, e3⟩
end
end Lp
set_option Elab.async false
set_option linter.all false
set_option maxRecDepth 100000
set_option maxHeartbeats 4000000
/-! The law's source of numbers. -/
namespace Lp
open PySem PySem.Spec PyProof.Rows L2 Sh
def kCells : L2.Key := Sum.inr "cells"
def kLeft : L2.Key := Sum.inr "left"
def kMixed : L2.Key := Sum.inr "mixed"
def kTurn : L2.Key := Sum.inr "turn"
def srcKv (c : Addr) (l x t : Int) : List (L2.Key × V) := [(kCells, .ref c), (kLeft, .int l), (kMixed, .int x), (kTurn, .int t)]
theorem src_cells (c : Addr) (l x t : Int) : valV (srcKv c l x t) kCells = some (.ref c) := rfl
theorem src_left (c : Addr) (l x t : Int) : valV (srcKv c l x t) kLeft = some (.int l) := rfl
theorem src_mixed (c : Addr) (l x t : Int) : valV (srcKv c l x t) kMixed = some (.int x) := rfl
theorem src_turn (c : Addr) (l x t : Int) : valV (srcKv c l x t) kTurn = some (.int t) := rfl
theorem put_left (c : Addr) (l x t y : Int) : putK (srcKv c l x t) kLeft (.int y) = srcKv c y x t := rfl
theorem put_mixed (c : Addr) (l x t y : Int) : putK (srcKv c l x t) kMixed (.int y) = srcKv c l y t := rfl
theorem put_turn (c : Addr) (l x t y : Int) : putK (srcKv c l x t) kTurn (.int y) = srcKv c l x y := rfl
/-- the source at d, its cells at c -/
def Src (H : Hp) (d c : Addr) : Prop := ∃ (l x t : Int) (ns : List Int), H d = some (.dK (srcKv c l x t)) ∧ H c = some (.lst (ns.map V.int)) ∧ ns.length ≤ 1000
/-- all but the source stays -/
def SmX (d c : Addr) (H H' : Hp) : Prop := ∀ b o, H b = some o → b ≠ d → b ≠ c → H' b = some o
theorem SmX.refl {d c : Addr} {H : Hp} : SmX d c H H := fun _ _ h _ _ => h
theorem SmX.trans {d c : Addr} {H H1 H2 : Hp} (a : SmX d c H H1) (b : SmX d c H1 H2) : SmX d c H H2 := fun e o h n1 n2 => b e o (a e o h n1 n2) n1 n2
theorem SmX.same {d c : Addr} {H H' : Hp} (h : Same H H') : SmX d c H H' := fun b o e _ _ => h b o e
theorem Src.same {d c : Addr} {H H' : Hp} (h : Src H d c) (k : Same H H') : Src H' d c :=
  let ⟨l, x, t, ns, e1, e2, e3⟩ := h; ⟨l, x, t, ns, k _ _ e1, k _ _ e2, e3⟩
theorem SmX.tupK {d c : Addr} {H H' : Hp} (k : SmX d c H H') (h : Src H d c) : TupK H H' := fun a xs e =>
  let ⟨l, x, t, ns, e1, e2, _⟩ := h
  k a _ e (ne_of e e1 (by intro z; cases z)) (ne_of e e2 (by intro z; cases z))
theorem SmX.free {d c : Addr} {H H' : Hp} (k : SmX d c H H') (h : Src H' d c) {b : Addr} (n : H' b = none) : H b = none := by
  obtain ⟨l, x, t, ns, e1, e2, _⟩ := h
  cases e : H b with
  | none => rfl
  | some o =>
    have := k b o e (ne_of_none e1 n).symm (ne_of_none e2 n).symm
    rw [n] at this
    cases this
theorem Src.ne {d c : Addr} {H : Hp} (h : Src H d c) : d ≠ c := by
  obtain ⟨l, x, t, ns, e1, e2, _⟩ := h
  exact ne_of e1 e2 (by intro z; cases z)
theorem Src.off {d c b : Addr} {H : Hp} (h : Src H d c) (n : H b = none) : b ≠ d ∧ b ≠ c := by
  obtain ⟨l, x, t, ns, e1, e2, _⟩ := h
  exact ⟨(ne_of_none e1 n).symm, (ne_of_none e2 n).symm⟩
/-- a write at a place that is new since H -/
theorem SmX.wr {d c : Addr} {H H' : Hp} {p : Addr} {o : HO} (h : SmX d c H H') (n : H p = none) : SmX d c H (upd H' p o) := fun b u q n1 n2 => by
  rw [upd_ne (ne_of_none q n)]
  exact h b u q n1 n2
theorem Src.wr {d c p : Addr} {H : Hp} {o : HO} (h : Src H d c) (n1 : p ≠ d) (n2 : p ≠ c) : Src (upd H p o) d c := by
  obtain ⟨l, x, t, ns, e1, e2, e3⟩ := h
  exact ⟨l, x, t, ns, by rw [upd_ne n1.symm]; exact e1, by rw [upd_ne n2.symm]; exact e2, e3⟩
theorem smx_d {d c : Addr} {H : Hp} {o : HO} : SmX d c H (upd H d o) := fun b u q n1 _ => by
  rw [upd_ne n1]
  exact q
theorem smx_c {d c : Addr} {H : Hp} {o : HO} : SmX d c H (upd H c o) := fun b u q _ n2 => by
  rw [upd_ne n2]
  exact q
theorem fmod_nat (a : Int) {m : Nat} (h : 1 ≤ m) : ∃ r : Nat, a.fmod (m : Int) = (r : Int) ∧ r < m := by
  have h1 : 0 ≤ a.fmod (m : Int) := Int.fmod_nonneg_of_pos a (by omega)
  have h2 : a.fmod (m : Int) < (m : Int) := Int.fmod_lt_of_pos a (by omega)
  obtain ⟨r, e⟩ := Int.eq_ofNat_of_zero_le h1
  exact ⟨r, e, by omega⟩
theorem testIs {c : TT} {σ : L2.St} {H : Hp} {k : Bool → Hp → Prop} (b : Bool) (h : ∀ k : Bool → Hp → Prop, k b H → c σ H k) (hk : k b H) : c σ H k := h k hk
section
variable {P : Program} {w : World} {K : PySem.W.Frag} {mg : Str → Option Value} {base : Heap}
/-! ### _law_source -/
theorem scLSource : FnScope ["_law_script", "_law_mixed", "_law_cell"] ["_law_script"] (defScope sLSource) := ⟨rfl, rfl, rfl, by decide +kernel, rfl, by decide +kernel, by decide +kernel⟩
def spLSource (K : PySem.W.Frag) : Sp := fun vs H Q _ => ∃ (a : Addr) (ns : List Int), vs = [.ref a] ∧ SqL K H a (ns.map V.int) ∧ ns.length ≤ 100 ∧ ∀ d c H', Same H H' → H d = none → H c = none → Src H' d c → Q (.ref d) H'
theorem ok_lsource {f : Addr} {fd : FuncData} (F : Fun K "_law_source" "_law_source" sLSource f fd) (mint : mg "int" = none) (mabs : mg "abs" = none) : FnOk P w K mg base CX0 1 f fd ["_law_script"] (spLSource K) := by
  refine F.ok scLSource (fun vs H Q E h => ?_) (fun cdv A outer s H vs Q E hr h => ?_)
  · obtain ⟨_, _, rfl, _⟩ := h
    rfl
  obtain ⟨a, ns, rfl, ha, hl, q⟩ := h
  have hu := hu_of hr
  refine ⟨_, pss_cons (ps_set (i := 1) scLSource.nd rfl (.inl rfl) pe_int)
    (pss_cons (ps_for PassesOwn.never rfl (pi_list (pv 0)) (pg_name (i := 2) scLSource.nd rfl (.inl rfl))
      (pss_one (ps_set (i := 1) scLSource.nd rfl (.inl rfl) (pe_op op_modN (pe_callTy call_int1 (by rfl) mint PyProof.Rows.boot_int (pa_cons (pe_op op_add (pe_op op_add (pe_op op_mul (pv 1) pe_int) (pe_op op_mul (pv 2) pe_int)) pe_int) pa_nil)) pe_int))))
    (pss_one (ps_ret (pe_disp (pps_cons pe_str (pe_revL (pe_lc (own := [("_law_cell", 2)]) (g := gName 2) (tt := tYes) rfl scLSource.nd (pi_list (pv 0))
        (blkOk_by (own := [("_law_cell", 2)]) (N := ["_law_script", "_law_mixed", "_law_cell"]) (sc := defScope sLSource) (by decide +kernel)) (fun _ _ _ _ _ => pg_name (i := 2) scLSource.nd rfl (.inl rfl)) (fun _ _ _ _ _ => pts_nil)
        (fun _ _ _ _ _ => pe_callB call_abs (by rfl) mabs PyProof.Rows.boot_abs (pa_cons (pv 2) pa_nil))))
      (pps_cons pe_str pe_int (pps_cons pe_str (pv 1) (pps_cons pe_str pe_int pps_nil)))) (by rfl) (by rfl) (fun z => by cases z) (by decide))))), ?_⟩
  refine ⟨_, rfl, a, rfl, ⟨_, ha⟩, ?_⟩
  refine for_it (walk_list (xs := ns.map V.int)) (fun i σ H' => ∃ (x : Int) (y : Option V), σ = [some (.ref a), some (.int x), y] ∧ H' = H) ⟨11, _, rfl, rfl⟩ (fun i σ H' _ h => ?_) (fun i x σ H1 H2 hi h y => ?_) (fun σ H' h => ?_)
  · obtain ⟨_, _, _, rfl⟩ := h
    exact ha
  · obtain ⟨x0, y0, rfl, rfl⟩ := h
    obtain ⟨rfl, hx⟩ := y
    have hx' : (ns.map V.int)[i]? = some x := hx
    rw [List.getElem?_map] at hx'
    cases e : ns[i]? with
    | none =>
      rw [e] at hx'
      cases hx'
    | some z =>
      rw [e] at hx'
      cases hx'
      refine ⟨_, rfl, _, _, rfl, rfl, .inr ⟨by omega, by omega⟩, _, rfl, _, _, rfl, rfl, .inr ⟨by omega, by omega⟩, _, _, rfl, rfl, _, _, rfl, rfl, .inl ⟨_, rfl, _, _, rfl, rfl, by omega, ?_⟩⟩
      exact ⟨_, _, rfl, rfl⟩
  · obtain ⟨x0, y0, rfl, rfl⟩ := h
    refine fun p hp => ?_
    have s0 := fun o => same_new (o := o) hp
    refine ⟨_, rfl, a, rfl, ⟨_, (s0 _).seq ha⟩, fun D hD => ?_⟩
    refine lc_it (walk_list (xs := ns.map V.int)) (fun i H2 => Same (upd H' p (.dK [])) H2 ∧ ∃ ms : List Int, ms.length = i ∧ H2 D = some (.lst (ms.map V.int))) ⟨same_new hD, [], rfl, upd_same⟩ (fun i H2 _ h => h.1.seq ((s0 _).seq ha)) (fun i x H0 H1 hi h y => ?_) (fun H2 h => ?_)
    · obtain ⟨sm, ms, hm, hd⟩ := h
      obtain ⟨rfl, hx⟩ := y
      have hx' : (ns.map V.int)[i]? = some x := hx
      rw [List.getElem?_map] at hx'
      cases e : ns[i]? with
      | none =>
        rw [e] at hx'
        cases hx'
      | some z =>
        rw [e] at hx'
        cases hx'
        refine ⟨rfl, yes_go ?_⟩
        refine ⟨_, rfl, _, rfl, _, hd, ?_, same_wr sm hD, ms ++ [if z < 0 then -z else z], by rw [List.length_append, hm]; rfl, ?_⟩
        · rw [List.length_map, hm]
          rw [List.length_map] at hi
          exact lt_line (by omega)
        · rw [upd_same, List.map_append]
          rfl
    · obtain ⟨sm, ms, hm, hd⟩ := h
      refine ⟨D, _, rfl, SqL.of hd, fun c hc => ?_⟩
      have s2 : Same H2 (upd H2 c (.lst (ms.map V.int).reverse)) := same_new hc
      have sA := sm.trans s2
      refine ⟨_, rfl, sA _ _ upd_same, [(kCells, .ref c), (kLeft, .int 1), (kMixed, .int x0), (kTurn, .int 0)], rfl, by show 4 ≤ 15; decide, ?_⟩
      have sB : Same H' (upd H2 c (.lst (ms.map V.int).reverse)) := (s0 _).trans sA
      have npc : c ≠ p := fun z => by
        subst z
        have := sm _ _ upd_same
        rw [hc] at this
        cases this
      refine q p c _ (same_wr sB hp) hp (Same.free ((s0 _).trans sm) hc) ⟨1, x0, 0, ms.reverse, ?_, ?_, ?_⟩
      · rw [upd_same]
        rfl
      · rw [upd_ne npc, upd_same, List.map_reverse]
      · rw [List.length_reverse, hm, List.length_map]
        omega
/-! ### _law_pick -/
theorem scLPick : FnScope ["_law_source_here", "_law_many", "_law_left", "_law_mixed"] ["_law_source_here", "_law_many"] (defScope sLPick) := ⟨rfl, rfl, rfl, by decide +kernel, rfl, by decide +kernel, by decide +kernel⟩
def spLPick : Sp := fun vs H Q _ => ∃ (d c : Addr) (m : Nat), vs = [.ref d, .int (m : Nat)] ∧ Src H d c ∧ 1 ≤ m ∧ m ≤ 1000 ∧ ∀ (r : Nat) H', r < m → SmX d c H H' → Src H' d c → Q (.int (r : Nat)) H'
theorem ok_lpick {f : Addr} {fd : FuncData} (F : Fun K "_law_pick" "_law_pick" sLPick f fd) (mint : mg "int" = none) (mmax : mg "max" = none) (ml : mg "len" = none) : FnOk P w K mg base CX0 1 f fd ["_law_source_here", "_law_many"] spLPick := by
  refine F.ok scLPick (fun vs H Q E h => ?_) (fun cdv A outer s H vs Q E hr h => ?_)
  · obtain ⟨_, _, _, rfl, _⟩ := h
    rfl
  obtain ⟨d, c, m, rfl, hsrc, hm1, hm2, q⟩ := h
  have hu := hu_of hr
  refine ⟨_, pss_cons (ps_while PassesOwn.never (PW.pt (pw_and (pt_cmpR op_gt (pv 1) pe_int (nomark _)) (pw_and (pt_cmpR op_lt (pe_dget hu (pv 0) pe_str (fun _ _ => rfl)) pe_int (nomark _))
        (pw_and1 (pt_cmpR op_gt (pe_callB call_len_seq (by rfl) ml PySem.boot_len (pa_cons (pe_dget hu (pv 0) pe_str (fun _ _ => rfl)) pa_nil)) pe_int (nomark _))))))
      (pss_one (ps_dput hu (pv 0) pe_str (pe_bm0 PySem.F.plainAttrs_list PySem.F.slot_list_pop PySem.F.type_list_pop mt_pop (pe_dget hu (pv 0) pe_str (fun _ _ => rfl))) rfl)))
    (pss_cons (ps_set (i := 2) scLPick.nd rfl (.inl rfl) (pe_dget hu (pv 0) pe_str (fun _ _ => rfl)))
    (pss_cons (ps_if (PW.pt (pw_or (pt_cmpR op_lt (pv 1) pe_int (nomark _)) (pw_or1 (pt_cmpR op_gt (pv 2) pe_int (nomark _)))))
      (pss_cons (ps_dput hu (pv 0) pe_str (pe_op op_fdivN (pv 2) (pe_callB (call_max2 rfl) (by rfl) mmax PyProof.Rows.boot_max (pa_cons pe_int (pa_cons (pv 1) pa_nil)))) rfl)
      (pss_one (ps_ret (pe_op op_modN (pe_callTy call_int1 (by rfl) mint PyProof.Rows.boot_int (pa_cons (pv 2) pa_nil)) (pe_callB (call_max2 rfl) (by rfl) mmax PyProof.Rows.boot_max (pa_cons pe_int (pa_cons (pv 1) pa_nil))))))) pss_nil)
    (pss_cons (ps_dput hu (pv 0) pe_str (pe_op op_add (pe_dget hu (pv 0) pe_str (fun _ _ => rfl)) pe_int) rfl)
    (pss_cons (ps_set (i := 3) scLPick.nd rfl (.inl rfl) (pe_op op_modN (pe_callTy call_int1 (by rfl) mint PyProof.Rows.boot_int (pa_cons (pe_op op_add (pe_dget hu (pv 0) pe_str (fun _ _ => rfl)) (pe_op op_mul (pe_dget hu (pv 0) pe_str (fun _ _ => rfl)) pe_int)) pa_nil)) pe_int))
    (pss_cons (ps_set (i := 3) scLPick.nd rfl (.inl rfl) (pe_op op_modN (pe_callTy call_int1 (by rfl) mint PyProof.Rows.boot_int (pa_cons (pe_op op_add (pe_op op_mul (pv 3) (pv 3)) (pe_op op_mul (pe_dget hu (pv 0) pe_str (fun _ _ => rfl)) pe_int)) pa_nil)) pe_int))
    (pss_cons (ps_dput hu (pv 0) pe_str (pv 3) rfl)
    (pss_one (ps_ret (pe_op op_modN (pe_callTy call_int1 (by rfl) mint PyProof.Rows.boot_int (pa_cons (pe_op op_fdivN (pv 3) pe_int) pa_nil)) (pv 1)))))))))), ?_⟩
  have hmax : (if ((m : Nat) : Int) > 1 then ((m : Nat) : Int) else 1) = ((m : Nat) : Int) := by split <;> omega
  refine ⟨fun k σ H3 => ∃ (l x t : Int) (ns : List Int) (y2 y3 : Option V), σ = [some (.ref d), some (.int (m : Nat)), y2, y3] ∧ SmX d c H H3 ∧ H3 d = some (.dK (srcKv c l x t)) ∧ H3 c = some (.lst (ns.map V.int)) ∧ ns.length ≤ 1000 ∧ k = ns.length, ?_, ?_⟩
  · obtain ⟨l, x, t, ns, e1, e2, e3⟩ := hsrc
    exact ⟨_, l, x, t, ns, _, _, rfl, .refl, e1, e2, e3, rfl⟩
  have hdc := hsrc.ne
  rintro k σ H3 ⟨l, x, t, ns, y2, y3, rfl, sm, e1, e2, e3, rfl⟩
  refine testIs (decide ((1 < (m : Int) ∧ l < 2) ∧ 0 < ns.length)) (fun k hk => ?_) ?_
  · refine ⟨_, rfl, _, _, rfl, rfl, _, rfl, ?_⟩
    by_cases h1 : (1 : Int) < (m : Int)
    · rw [decide_eq_true h1]
      refine iteT ⟨_, rfl, d, _, rfl, DGet.k (k := kLeft) e1, _, _, rfl, rfl, _, rfl, ?_⟩
      by_cases h2 : l < 2
      · rw [decide_eq_true h2]
        refine iteT ⟨_, rfl, d, _, rfl, DGet.k (k := kCells) e1, c, ns.map V.int, rfl, .inl (SqL.of e2), _, _, rfl, rfl, _, rfl, ?_⟩
        rw [List.length_map]
        have e : decide ((0 : Int) < ((ns.length : Nat) : Int)) = decide ((1 < (m : Int) ∧ l < 2) ∧ 0 < ns.length) := by
          by_cases h3 : 0 < ns.length
          · rw [decide_eq_true (show (0 : Int) < ((ns.length : Nat) : Int) by omega), decide_eq_true ⟨⟨h1, h2⟩, h3⟩]
          · rw [decide_eq_false (show ¬ (0 : Int) < ((ns.length : Nat) : Int) by omega), decide_eq_false fun z => h3 z.2]
        rw [e]
        exact hk
      · rw [decide_eq_false h2]
        rw [decide_eq_false (fun z => h2 z.1.2)] at hk
        exact iteF hk
    · rw [decide_eq_false h1]
      rw [decide_eq_false (fun z => h1 z.1.1)] at hk
      exact iteF hk
  by_cases hb : (1 < (m : Int) ∧ l < 2) ∧ 0 < ns.length
  · rw [decide_eq_true hb]
    refine iteT ⟨fun σ' H' => ∃ (l' x t : Int) (ms : List Int) (y2 y3 : Option V), σ' = [some (.ref d), some (.int (m : Nat)), y2, y3] ∧ SmX d c H H' ∧ H' d = some (.dK (srcKv c l' x t)) ∧ H' c = some (.lst (ms.map V.int)) ∧ ms.length ≤ 1000 ∧ ms.length < ns.length,
      fun σ' H' ⟨l', x, t, ms, y2, y3, a1, a2, a3, a4, a5, a6⟩ => ⟨_, a6, l', x, t, ms, y2, y3, a1, a2, a3, a4, a5, rfl⟩, ?_⟩
    have h3 := hb.2
    have hlast : (ns.map V.int)[(ns.map V.int).length - 1]? = some (.int ns[ns.length - 1]) := by
      rw [List.length_map, List.getElem?_map, List.getElem?_eq_getElem (show ns.length - 1 < ns.length by omega)]
      rfl
    refine ⟨_, rfl, d, _, rfl, DGet.k (k := kCells) e1, .inl ⟨rfl, _, .inl (.inl e2)⟩, c, _, _, rfl, rfl, e2, hlast, ?_⟩
    have e1' : upd H3 c (.lst (ns.map V.int).dropLast) d = some (.dK (srcKv c l x t)) := by
      rw [upd_ne hdc]
      exact e1
    refine ⟨_, rfl, d, _, rfl, DPut.k (k := kLeft) e1' (by show 4 < _; exact lt_line (by omega)), ?_⟩
    rw [put_left]
    refine ⟨_, x, t, ns.dropLast, _, _, rfl, (sm.trans smx_c).trans smx_d, upd_same, ?_, ?_, ?_⟩
    · rw [upd_ne hdc.symm, upd_same, List.map_dropLast]
    · rw [List.length_dropLast]
      omega
    · rw [List.length_dropLast]
      omega
  · rw [decide_eq_false hb]
    have four : (srcKv c l x t).length < sizeLine := by
      show 4 < _
      exact lt_line (by omega)
    refine iteF ⟨_, rfl, d, _, rfl, DGet.k (k := kLeft) e1, ?_⟩
    have out : ∀ r : Int, ∀ H', 0 ≤ r → r < m → SmX d c H H' → Src H' d c → Q (.int r) H' := fun r H' h0 h1 a b => by
      obtain ⟨n, e⟩ := Int.eq_ofNat_of_zero_le h0
      subst e
      exact q n H' (by omega) a b
    refine ⟨_, rfl, _, _, rfl, rfl, _, rfl, ?_⟩
    by_cases h1 : ((m : Nat) : Int) < 2
    · rw [decide_eq_true h1]
      refine iteT ⟨_, rfl, _, rfl, _, _, rfl, ?_⟩
      rw [hmax]
      refine ⟨_, _, rfl, rfl, ⟨by omega, by omega⟩, _, rfl, d, _, rfl, DPut.k (k := kLeft) e1 four, ?_⟩
      rw [put_left]
      refine ⟨_, rfl, .inl ⟨_, rfl, _, rfl, _, _, rfl, ?_⟩⟩
      rw [hmax]
      refine ⟨_, _, rfl, rfl, by omega, out _ _ (Int.fmod_nonneg_of_pos _ (by omega)) (Int.fmod_lt_of_pos _ (by omega)) (sm.trans smx_d) ⟨_, x, t, ns, upd_same, by rw [upd_ne hdc.symm]; exact e2, e3⟩⟩
    rw [decide_eq_false h1]
    refine iteF ⟨_, rfl, _, _, rfl, rfl, _, rfl, ?_⟩
    by_cases h3 : (1 : Int) < l
    · rw [decide_eq_true h3]
      refine iteT ⟨_, rfl, _, rfl, _, _, rfl, ?_⟩
      rw [hmax]
      refine ⟨_, _, rfl, rfl, ⟨by omega, by omega⟩, _, rfl, d, _, rfl, DPut.k (k := kLeft) e1 four, ?_⟩
      rw [put_left]
      refine ⟨_, rfl, .inl ⟨_, rfl, _, rfl, _, _, rfl, ?_⟩⟩
      rw [hmax]
      refine ⟨_, _, rfl, rfl, by omega, out _ _ (Int.fmod_nonneg_of_pos _ (by omega)) (Int.fmod_lt_of_pos _ (by omega)) (sm.trans smx_d) ⟨_, x, t, ns, upd_same, by rw [upd_ne hdc.symm]; exact e2, e3⟩⟩
    · rw [decide_eq_false h3]
      refine iteF ?_
      refine ⟨_, rfl, d, _, rfl, DGet.k (k := kTurn) e1, _, _, rfl, rfl, _, rfl, d, _, rfl, DPut.k (k := kTurn) e1 four, ?_⟩
      rw [put_turn]
      refine ⟨_, rfl, d, _, rfl, DGet.k (k := kMixed) upd_same, _, rfl, d, _, rfl, DGet.k (k := kTurn) upd_same, _, _, rfl, rfl, .inr ⟨by omega, by omega⟩, _, _, rfl, rfl, .inl ⟨_, rfl, _, _, rfl, rfl, by omega, ?_⟩⟩
      have b1 := Int.fmod_nonneg_of_pos (x + (t + 1) * 104729) (show (0 : Int) < 998244353 by omega)
      have b2 := Int.fmod_lt_of_pos (x + (t + 1) * 104729) (show (0 : Int) < 998244353 by omega)
      refine ⟨_, rfl, _, rfl, _, _, rfl, rfl, .inl ⟨by omega, by omega⟩, _, rfl, d, _, rfl, DGet.k (k := kTurn) upd_same, _, _, rfl, rfl, .inr ⟨by omega, by omega⟩, _, _, rfl, rfl, .inl ⟨_, rfl, _, _, rfl, rfl, by omega, ?_⟩⟩
      refine ⟨_, rfl, _, rfl, d, _, rfl, DPut.k (k := kMixed) upd_same four, ?_⟩
      rw [put_mixed]
      refine ⟨_, rfl, _, _, rfl, rfl, ⟨by omega, by decide⟩, .inl ⟨_, rfl, _, rfl, _, _, rfl, rfl, by omega, ?_⟩⟩
      refine out _ _ (Int.fmod_nonneg_of_pos _ (by omega)) (Int.fmod_lt_of_pos _ (by omega)) ((sm.trans smx_d).trans smx_d) ⟨_, _, _, ns, upd_same, ?_, e3⟩
      rw [upd_ne hdc.symm, upd_ne hdc.symm]
      exact e2
end
end Lp
set_option Elab.async false
set_option linter.all false
set_option maxRecDepth 100000
set_option maxHeartbeats 4000000
/-! The law's shapes and tables. -/
namespace Lp
open PySem PySem.Spec PyProof.Rows L2 Sh
/-- a table at a value -/
def TabV (H : Hp) (T : Tab) (v : V) : Prop := ∃ a us, v = .ref a ∧ H a = some (.tup us) ∧ ShVs H T us
theorem TabV.keep {H H' : Hp} {T : Tab} {v : V} (h : TabV H T v) (k : TupK H H') : TabV H' T v :=
  let ⟨a, us, e1, e2, e3⟩ := h; ⟨a, us, e1, k _ _ e2, e3.keep k⟩
section
variable {P : Program} {w : World} {K : PySem.W.Frag} {mg : Str → Option Value} {base : Heap}
/-! ### _law_comb -/
theorem scLComb : FnScope ["_law_n", "_law_side", "_law_found", "_law_lap"] ["_law_n", "_law_side"] (defScope sLComb) := ⟨rfl, rfl, rfl, by decide +kernel, rfl, by decide +kernel, by decide +kernel⟩
theorem ok_lcomb {f : Addr} {fd : FuncData} (F : Fun K "_law_comb" "_law_comb" sLComb f fd) (mr : mg "range" = none) : FnOk P w K mg base CX0 1 f fd ["_law_n", "_law_side"] spComb := by
  refine F.ok scLComb (fun vs H Q E h => ?_) (fun cdv A outer s H vs Q E hr h => ?_)
  · obtain ⟨k, left, rfl, _⟩ := h
    rfl
  obtain ⟨k, left, rfl, hk, q⟩ := h
  refine ⟨_, pss_cons (ps_set (i := 2) scLComb.nd rfl (.inl rfl) (pe_tup pa_nil))
    (pss_cons (ps_for PassesOwn.never rfl (pi_range1 rfl mr (pa_cons (pe_op op_sub (pv 0) pe_int) pa_nil)) (pg_name (i := 3) scLComb.nd rfl (.inl rfl))
      (pss_one (ps_set (i := 2) scLComb.nd rfl (.inl rfl) (pe_ifExp (pt_cmpR op_eq (pv 1) pe_str (nomark _)) (pe_tup (pa_cons (pv 2) (pa_cons (pe_tup pa_nil) pa_nil))) (pe_tup (pa_cons (pe_tup pa_nil) (pa_cons (pv 2) pa_nil)))))))
    (pss_one (ps_ret (pv 2)))), ?_⟩
  refine ⟨le_line (by simp), fun p hp => ?_⟩
  refine ⟨_, rfl, _, _, rfl, rfl, _, rfl, by omega, by omega, for_range (lo := 0) (n := _) (fun i σ H' => ∃ v y, σ = [some (.int ((k + 1 : Nat) : Int)), some (.str (sideS left)), some v, y] ∧ Same H H' ∧ ShV H' (comb left i) v)
    ⟨_, _, rfl, same_new hp, p, rfl, upd_same⟩ ?_ ?_⟩
  · rintro i σ H' hi ⟨v, y, rfl, sm, hv⟩
    refine ⟨.str (sideS left), rfl, rfl, _, rfl, ?_⟩
    show (if (decide (V.str (sideS left) = V.str "left")) = true then _ else _)
    rw [side_dec]
    cases left with
    | true =>
      refine iteT ⟨v, rfl, le_line (by simp), fun p1 hp1 => ⟨le_line (by simp), fun p2 hp2 => ?_⟩⟩
      have s1 : Same H' (upd H' p1 (.tup [])) := same_new hp1
      have s2 : Same (upd H' p1 (.tup [])) (upd (upd H' p1 (.tup [])) p2 (.tup [v, .ref p1])) := same_new hp2
      exact ⟨_, _, rfl, sm.trans (s1.trans s2), p2, _, _, rfl, upd_same, hv.same (s1.trans s2), p1, rfl, s2 _ _ upd_same⟩
    | false =>
      refine iteF ⟨le_line (by simp), fun p1 hp1 => ⟨v, rfl, le_line (by simp), fun p2 hp2 => ?_⟩⟩
      have s1 : Same H' (upd H' p1 (.tup [])) := same_new hp1
      have s2 : Same (upd H' p1 (.tup [])) (upd (upd H' p1 (.tup [])) p2 (.tup [.ref p1, v])) := same_new hp2
      exact ⟨_, _, rfl, sm.trans (s1.trans s2), p2, _, _, rfl, upd_same, ⟨p1, rfl, s2 _ _ upd_same⟩, hv.same (s1.trans s2)⟩
  · rintro σ H' ⟨v, y, rfl, sm, hv⟩
    have e : (((k + 1 : Nat) : Int) - 1).toNat = k := by omega
    rw [e] at hv
    exact ⟨v, rfl, q v H' sm hv⟩

/-! ### _law_of -/
theorem scLOf : FnScope ["_law_source_here", "_law_some"] ["_law_source_here", "_law_some"] (defScope sLOf) := ⟨rfl, rfl, rfl, by decide +kernel, rfl, by decide +kernel, by decide +kernel⟩
def spLOf : Sp := fun vs H Q _ => ∃ (d c a : Addr) (xs : List V), vs = [.ref d, .ref a] ∧ Src H d c ∧ a ≠ d ∧ a ≠ c ∧ H a = some (.lst xs) ∧ 1 ≤ xs.length ∧ xs.length ≤ 1000 ∧ ∀ (r : Nat) v H', xs[r]? = some v → SmX d c H H' → Src H' d c → Q v H'
theorem ok_lof {f fP : Addr} {fd fdP : FuncData} (F : Fun K "_law_of" "_law_of" sLOf f fd) (DP : Df K mg "_law_pick" sLPick ["_law_source_here", "_law_many"] fP fdP) (mint : mg "int" = none) (mmax : mg "max" = none) (ml : mg "len" = none) :
    FnOk P w K mg base CX0 2 f fd ["_law_source_here", "_law_some"] spLOf := by
  have GP : FnOk P w K mg base CX0 1 fP fdP ["_law_source_here", "_law_many"] spLPick := ok_lpick DP.fn mint mmax ml
  refine F.ok scLOf (fun vs H Q E h => ?_) (fun cdv A outer s H vs Q E hr h => ?_)
  · obtain ⟨_, _, _, _, rfl, _⟩ := h
    rfl
  obtain ⟨d, c, a, xs, rfl, hsrc, n1, n2, ha, h1, h2, q⟩ := h
  refine ⟨_, pss_one (ps_ret (pe_ix ix_list (pv 1) (pe_df DP GP hr (by rfl) (pa_cons (pv 0) (pa_cons (pe_callB call_len_seq (by rfl) ml PySem.boot_len (pa_cons (pv 1) pa_nil)) pa_nil))) (fun _ _ => rfl))), ?_⟩
  refine ⟨_, rfl, _, rfl, _, rfl, a, xs, rfl, .inl (SqL.of ha), d, c, xs.length, rfl, hsrc, h1, h2, fun r H1 hr' sm hs => ?_⟩
  exact ⟨a, xs, _, _, rfl, rfl, SqL.of (sm _ _ ha n1 n2), atI_nat (List.getElem?_eq_getElem hr'), q r _ H1 (List.getElem?_eq_getElem hr') sm hs⟩
/-! ### _law_halves -/
theorem scLHalves : FnScope ["_law_n"] ["_law_n"] (defScope sLHalves) := ⟨rfl, rfl, rfl, by decide +kernel, rfl, by decide +kernel, by decide +kernel⟩
def spLHalves (N : Nat) : Sp := fun vs H Q _ => ∃ (n : Nat), vs = [.int (n : Nat)] ∧ 1 ≤ n ∧ n ≤ N ∧ ∀ s v H', Same H H' → ShV H' s v → s.size = n → Q v H'
theorem ok_lhalves {f : Addr} {fd : FuncData} (D : Df K mg "_law_halves" sLHalves ["_law_n"] f fd) : ∀ N : Nat, FnOk P w K mg base CX0 (N + 1) f fd ["_law_n"] (spLHalves N)
  | 0 => by
    have no : ∀ vs H Q E, ¬ spLHalves 0 vs H Q E := fun vs H Q E h => by
      obtain ⟨n, _, h1, h2, _⟩ := h
      omega
    exact ⟨fun vs H Q E h => absurd h (no vs H Q E), fun A outer s H args us vs Q E _ _ _ _ h => absurd h (no vs H Q E)⟩
  | N + 1 => by
    have G : FnOk P w K mg base CX0 (N + 1) f fd ["_law_n"] (spLHalves N) := ok_lhalves D N
    refine D.fn.ok scLHalves (fun vs H Q E h => ?_) (fun cdv A outer s H vs Q E hr h => ?_)
    · obtain ⟨_, rfl, _⟩ := h
      rfl
    obtain ⟨n, rfl, h1, h2, q⟩ := h
    refine ⟨_, pss_one (ps_ret (pe_ifExp (pt_cmpR op_lt (pv 0) pe_int (nomark _)) (pe_tup pa_nil) (pe_tup (pa_cons (pe_df D G hr (by rfl) (pa_cons (pe_op op_sub (pv 0) (pe_op op_fdiv (pv 0) pe_int)) pa_nil))
      (pa_cons (pe_df D G hr (by rfl) (pa_cons (pe_op op_fdiv (pv 0) pe_int) pa_nil)) pa_nil))))), ?_⟩
    refine ⟨_, rfl, _, _, rfl, rfl, _, rfl, ?_⟩
    by_cases hn : ((n : Nat) : Int) < 2
    · rw [decide_eq_true hn]
      refine iteT ⟨le_line (by simp), fun p hp => ?_⟩
      refine q .o _ _ (same_new hp) ⟨p, rfl, upd_same⟩ ?_
      have : Sh.o.size = 1 := rfl
      omega
    · rw [decide_eq_false hn]
      refine iteF ⟨_, rfl, _, rfl, _, _, rfl, rfl, ⟨by decide, by decide⟩, _, _, rfl, rfl, n - n / 2, ?_, by omega, by omega, fun s1 v1 H1 k1 hv1 hz1 => ⟨_, rfl, _, _, rfl, rfl, ⟨by decide, by decide⟩, n / 2, ?_, by omega, by omega, fun s2 v2 H2 k2 hv2 hz2 => ⟨le_line (by simp), fun p hp => ?_⟩⟩⟩
      · have e : ((n : Nat) : Int) - ((n : Nat) : Int) / 2 = ((n - n / 2 : Nat) : Int) := by omega
        show [V.int (((n : Nat) : Int) - ((n : Nat) : Int) / 2)] = _
        rw [e]
      · have e : ((n : Nat) : Int) / 2 = ((n / 2 : Nat) : Int) := by omega
        show [V.int (((n : Nat) : Int) / 2)] = _
        rw [e]
      · have s3 := fun o => same_new (o := o) hp
        refine q (.p s1 s2) _ _ (k1.trans (k2.trans (s3 _))) ⟨p, _, _, rfl, upd_same, hv1.same (k2.trans (s3 _)), hv2.same (s3 _)⟩ ?_
        show s1.size + s2.size = n
        omega
/-! ### _law_size -/
def spLSize (N : Nat) : Sp := fun vs H Q _ => ∃ (v : V) (s : Sh), vs = [v] ∧ ShV H s v ∧ s.size ≤ N ∧ ∀ H', Same H H' → Q (.int (s.size : Nat)) H'

theorem scLSize : FnScope ["_law_form"] ["_law_form"] (defScope sLSize) := ⟨rfl, rfl, rfl, by decide +kernel, rfl, by decide +kernel, by decide +kernel⟩
theorem ok_lsize {f : Addr} {fd : FuncData} (D : Df K mg "_law_size" sLSize ["_law_form"] f fd) : ∀ N : Nat, N ≤ 60 → FnOk P w K mg base CX0 (N + 1) f fd ["_law_form"] (spLSize N)
  | 0, _ => by
    have no : ∀ vs H Q E, ¬ spLSize 0 vs H Q E := fun vs H Q E h => by
      obtain ⟨v, s, _, _, hz, _⟩ := h
      have := size_pos s
      omega
    exact ⟨fun vs H Q E h => absurd h (no vs H Q E), fun A outer s H args us vs Q E _ _ _ _ h => absurd h (no vs H Q E)⟩
  | N + 1, hN => by
    have G : FnOk P w K mg base CX0 (N + 1) f fd ["_law_form"] (spLSize N) := ok_lsize D N (by omega)
    refine D.fn.ok scLSize (fun vs H Q E h => ?_) (fun cdv A outer s H vs Q E hr h => ?_)
    · obtain ⟨_, _, rfl, _⟩ := h
      rfl
    obtain ⟨v, t, rfl, hv, hz, q⟩ := h
    refine ⟨_, pss_one (ps_ret (pe_ifExp (pt_cmpR (op_eqD hr.units) (pv 0) (pe_tup pa_nil) (nomark _)) pe_int (pe_op op_add (pe_df D G hr (by rfl) (pa_cons (pe_ix ix_tup (pv 0) pe_int (fun _ _ => rfl)) pa_nil))
      (pe_df D G hr (by rfl) (pa_cons (pe_ix ix_tup (pv 0) pe_int (fun _ _ => rfl)) pa_nil))))), ?_⟩
    refine ⟨_, rfl, le_line (by simp), fun e he => ?_⟩
    have s1 : Same H (upd H e (.tup [])) := same_new he
    refine ⟨_, _, (hv.same s1).dp, ShV.dp (s := .o) ⟨e, rfl, upd_same⟩, dat_shaped (by omega), dat_shaped (by decide), _, rfl, ?_⟩
    rw [dat_eqv]
    cases t with
    | o =>
      rw [decide_eq_true rfl]
      exact iteT (q _ s1)
    | p l r =>
      rw [decide_eq_false (show ¬ Sh.p l r = .o from fun z => by cases z)]
      have hl := size_pos l
      have hrr := size_pos r
      have hz' : l.size + r.size ≤ N + 1 := hz
      obtain ⟨a, x, y, rfl, ha, hx, hy⟩ := hv.same s1
      refine iteF ⟨_, rfl, a, _, 0, x, rfl, rfl, SqT.of ha, atI_nat (j := 0) rfl, x, l, rfl, hx, by omega, fun H2 s2 => ⟨_, rfl, a, _, 1, y, rfl, rfl, SqT.of (s2 _ _ ha), atI_nat (j := 1) rfl, y, r, rfl, hy.same s2, by omega, fun H3 s3 => ⟨_, _, rfl, rfl, ?_⟩⟩⟩
      have e : ((l.size : Nat) : Int) + ((r.size : Nat) : Int) = (((Sh.p l r).size : Nat) : Int) := by
        show _ = ((l.size + r.size : Nat) : Int)
        omega
      show Q (.int (((l.size : Nat) : Int) + ((r.size : Nat) : Int))) H3
      rw [e]
      exact q H3 (s1.trans (s2.trans s3))
/-! ### _law_shape -/
theorem scLShape : FnScope ["_law_source_here", "_law_n", "_law_way", "_law_at"] ["_law_source_here", "_law_n"] (defScope sLShape) := ⟨rfl, rfl, rfl, by decide +kernel, rfl, by decide +kernel, by decide +kernel⟩
def spLShape (N : Nat) : Sp := fun vs H Q _ => ∃ (d c : Addr) (n : Nat), vs = [.ref d, .int (n : Nat)] ∧ Src H d c ∧ 1 ≤ n ∧ n ≤ N ∧ N ≤ 7 ∧ ∀ s v H', SmX d c H H' → Src H' d c → ShV H' s v → s.size = n → Q v H'
theorem ok_lshape {f fP fC fHv : Addr} {fd fdP fdC fdH : FuncData} (D : Df K mg "_law_shape" sLShape ["_law_source_here", "_law_n"] f fd) (DP : Df K mg "_law_pick" sLPick ["_law_source_here", "_law_many"] fP fdP)
    (DC : Df K mg "_law_comb" sLComb ["_law_n", "_law_side"] fC fdC) (DH : Df K mg "_law_halves" sLHalves ["_law_n"] fHv fdH) (mint : mg "int" = none) (mmax : mg "max" = none) (ml : mg "len" = none) (mr : mg "range" = none) :
    ∀ N : Nat, N ≤ 7 → FnOk P w K mg base CX0 (N + 9) f fd ["_law_source_here", "_law_n"] (spLShape N)
  | 0, _ => by
    have no : ∀ vs H Q E, ¬ spLShape 0 vs H Q E := fun vs H Q E h => by
      obtain ⟨d, c, n, _, _, h1, h2, _⟩ := h
      omega
    exact ⟨fun vs H Q E h => absurd h (no vs H Q E), fun A outer s H args us vs Q E _ _ _ _ h => absurd h (no vs H Q E)⟩
  | N + 1, hN => by
    have G : FnOk P w K mg base CX0 (N + 9) f fd ["_law_source_here", "_law_n"] (spLShape N) := ok_lshape D DP DC DH mint mmax ml mr N (by omega)
    have GP : FnOk P w K mg base CX0 1 fP fdP ["_law_source_here", "_law_many"] spLPick := ok_lpick DP.fn mint mmax ml
    have GC : FnOk P w K mg base CX0 1 fC fdC ["_law_n", "_law_side"] spComb := ok_lcomb DC.fn mr
    have GH : FnOk P w K mg base CX0 8 fHv fdH ["_law_n"] (spLHalves 7) := ok_lhalves DH 7
    refine D.fn.ok scLShape (fun vs H Q E h => ?_) (fun cdv A outer s H vs Q E hr h => ?_)
    · obtain ⟨_, _, _, rfl, _⟩ := h
      rfl
    obtain ⟨d, c, n, rfl, hsrc, h1, h2, h7, q⟩ := h
    have hr1 : Room 1 (A.deeper (envOfC "_law_shape" (defScope sLShape) s.heap.objs.size f cdv)) := hr.mono (by omega)
    have hr8 : Room 8 (A.deeper (envOfC "_law_shape" (defScope sLShape) s.heap.objs.size f cdv)) := hr.mono (by omega)
    refine ⟨_, pss_cons (ps_set (i := 2) scLShape.nd rfl (.inl rfl) (pe_df DP GP hr1 (by rfl) (pa_cons (pv 0) (pa_cons pe_int pa_nil))))
      (pss_cons (ps_if (PW.pt (pw_or (pt_cmpR op_lt (pv 1) pe_int (nomark _)) (pw_or1 (pt_cmpR op_lt (pv 2) pe_int (nomark _)))))
        (pss_one (ps_ret (pe_ix ix_list (pe_lst (pa_cons (pe_df DC GC hr1 (by rfl) (pa_cons (pv 1) (pa_cons pe_str pa_nil))) (pa_cons (pe_df DC GC hr1 (by rfl) (pa_cons (pv 1) (pa_cons pe_str pa_nil))) (pa_cons (pe_df DH GH hr8 (by rfl) (pa_cons (pv 1) pa_nil)) pa_nil))))
          (pe_ifExp (pt_cmpR op_lt (pv 2) pe_int (nomark _)) (pv 2) pe_int) (fun _ _ => rfl)))) pss_nil)
      (pss_cons (ps_set (i := 3) scLShape.nd rfl (.inl rfl) (pe_op op_add pe_int (pe_df DP GP hr1 (by rfl) (pa_cons (pv 0) (pa_cons (pe_op op_sub (pv 1) pe_int) pa_nil)))))
      (pss_one (ps_ret (pe_tup (pa_cons (pe_df D G hr (by rfl) (pa_cons (pv 0) (pa_cons (pv 3) pa_nil))) (pa_cons (pe_df D G hr (by rfl) (pa_cons (pv 0) (pa_cons (pe_op op_sub (pv 1) (pv 3)) pa_nil))) pa_nil))))))), ?_⟩
    refine ⟨_, rfl, d, c, 6, rfl, hsrc, by omega, by omega, fun way H1 hw sm1 hs1 => ?_⟩
    -- the three shapes that need no picking
    have three : ∀ (j : Nat) (v1 v2 v3 : V) (s3 : Sh) (Ha Hb Hc : Hp), j < 3 → ShV Ha (comb true (n - 1)) v1 → Same Ha Hb → ShV Hb (comb false (n - 1)) v2 → Same Hb Hc → ShV Hc s3 v3 → s3.size = n → ∀ l, Hc l = none →
        ∃ s v, [v1, v2, v3][j]? = some v ∧ ShV (upd Hc l (.lst [v1, v2, v3])) s v ∧ s.size = n := by
      intro j v1 v2 v3 s3 Ha Hb Hc hj h1' kb h2' kc h3' z l hl
      have kd := fun o => same_new (o := o) hl
      have e : ∀ b : Bool, (comb b (n - 1)).size = n := fun b => by
        rw [comb_size]
        omega
      match j, hj with
      | 0, _ => exact ⟨_, v1, rfl, h1'.same (kb.trans (kc.trans (kd _))), e true⟩
      | 1, _ => exact ⟨_, v2, rfl, h2'.same (kc.trans (kd _)), e false⟩
      | 2, _ => exact ⟨_, v3, rfl, h3'.same (kd _), z⟩
    have en : ((n : Nat) : Int) = ((n - 1 + 1 : Nat) : Int) := by omega
    have done3 : ∀ (s : Sh) (v : V) (H' : Hp), Same H1 H' → ShV H' s v → s.size = n → Q v H' := fun s v H' k hv z => q s v H' (sm1.trans (.same k)) (hs1.same k) hv z
    refine ⟨_, rfl, _, _, rfl, rfl, _, rfl, ?_⟩
    by_cases hn : ((n : Nat) : Int) < 2
    · rw [decide_eq_true hn]
      refine iteT ⟨_, rfl, n - 1, true, by rw [← en]; rfl, by omega, fun v1 Ha ka ha => ⟨_, rfl, n - 1, false, by rw [← en]; rfl, by omega, fun v2 Hb kb hb => ⟨_, rfl, n, rfl, by omega, by omega, fun s3 v3 Hc kc hc hz => ⟨le_line (by simp), fun l hl => ?_⟩⟩⟩⟩
      have kd := fun o => same_new (o := o) hl
      refine ⟨_, rfl, _, _, rfl, rfl, _, rfl, ?_⟩
      by_cases hw3 : ((way : Nat) : Int) < 3
      · rw [decide_eq_true hw3]
        obtain ⟨s, v, e1, e2, e3⟩ := three way v1 v2 v3 s3 Ha Hb Hc (by omega) ha kb hb kc hc hz l hl
        exact iteT ⟨_, rfl, l, _, _, v, rfl, rfl, SqL.of upd_same, atI_nat e1, done3 s v _ (ka.trans (kb.trans (kc.trans (kd _)))) e2 e3⟩
      · rw [decide_eq_false hw3]
        obtain ⟨s, v, e1, e2, e3⟩ := three 0 v1 v2 v3 s3 Ha Hb Hc (by omega) ha kb hb kc hc hz l hl
        exact iteF ⟨l, _, _, v, rfl, rfl, SqL.of upd_same, atI_nat e1, done3 s v _ (ka.trans (kb.trans (kc.trans (kd _)))) e2 e3⟩
    rw [decide_eq_false hn]
    refine iteF ⟨_, rfl, _, _, rfl, rfl, _, rfl, ?_⟩
    by_cases hw2 : ((way : Nat) : Int) < 3
    · rw [decide_eq_true hw2]
      refine iteT ⟨_, rfl, n - 1, true, by rw [← en]; rfl, by omega, fun v1 Ha ka ha => ⟨_, rfl, n - 1, false, by rw [← en]; rfl, by omega, fun v2 Hb kb hb => ⟨_, rfl, n, rfl, by omega, by omega, fun s3 v3 Hc kc hc hz => ⟨le_line (by simp), fun l hl => ?_⟩⟩⟩⟩
      have kd := fun o => same_new (o := o) hl
      refine ⟨_, rfl, _, _, rfl, rfl, _, rfl, ?_⟩
      by_cases hw3 : ((way : Nat) : Int) < 3
      · rw [decide_eq_true hw3]
        obtain ⟨s, v, e1, e2, e3⟩ := three way v1 v2 v3 s3 Ha Hb Hc (by omega) ha kb hb kc hc hz l hl
        exact iteT ⟨_, rfl, l, _, _, v, rfl, rfl, SqL.of upd_same, atI_nat e1, done3 s v _ (ka.trans (kb.trans (kc.trans (kd _)))) e2 e3⟩
      · rw [decide_eq_false hw3]
        obtain ⟨s, v, e1, e2, e3⟩ := three 0 v1 v2 v3 s3 Ha Hb Hc (by omega) ha kb hb kc hc hz l hl
        exact iteF ⟨l, _, _, v, rfl, rfl, SqL.of upd_same, atI_nat e1, done3 s v _ (ka.trans (kb.trans (kc.trans (kd _)))) e2 e3⟩
    rw [decide_eq_false hw2]
    refine iteF ⟨_, rfl, _, rfl, _, _, rfl, rfl, d, c, n - 1, ?_, hs1, by omega, by omega, fun r H2 hr2 sm2 hs2 => ⟨_, _, rfl, rfl, ?_⟩⟩
    · have e : ((n : Nat) : Int) - 1 = ((n - 1 : Nat) : Int) := by omega
      show [V.ref d, V.int (((n : Nat) : Int) - 1)] = _
      rw [e]
    refine ⟨_, rfl, _, rfl, d, c, 1 + r, ?_, hs2, by omega, by omega, by omega, fun s1 v1 H3 sm3 hs3 hv1 z1 => ⟨_, rfl, _, rfl, _, rfl, _, _, rfl, rfl, d, c, n - (1 + r), ?_, hs3, by omega, by omega, by omega, fun s2 v2 H4 sm4 hs4 hv2 z2 => ⟨le_line (by simp), fun p hp => ?_⟩⟩⟩
    · have e : (1 : Int) + ((r : Nat) : Int) = ((1 + r : Nat) : Int) := by omega
      show [V.ref d, V.int ((1 : Int) + ((r : Nat) : Int))] = _
      rw [e]
    · have e : ((n : Nat) : Int) - ((1 : Int) + ((r : Nat) : Int)) = ((n - (1 + r) : Nat) : Int) := by omega
      show [V.ref d, V.int (((n : Nat) : Int) - ((1 : Int) + ((r : Nat) : Int)))] = _
      rw [e]
    · have kd := fun o => same_new (o := o) hp
      refine q (.p s1 s2) _ _ ((((sm1.trans sm2).trans sm3).trans sm4).trans (.same (kd _))) (hs4.same (kd _)) ⟨p, _, _, rfl, upd_same, (hv1.keep (sm4.tupK hs3)).same (kd _), hv2.same (kd _)⟩ ?_
      show s1.size + s2.size = n
      omega
end
end Lp
set_option Elab.async false
set_option linter.all false
set_option maxRecDepth 100000
set_option maxHeartbeats 4000000
/-! The law's tables: _law_any_table, _law_entry, _law_filled, _law_pressed, _law_stage. -/
namespace Lp
open PySem PySem.Spec PyProof.Rows L2 Sh
theorem cut_mid (xs : List V) (k b : Nat) : cutV xs (some (k : Int)) (some ((k + b : Nat) : Int)) = (xs.drop k).take b := by
  unfold cutV
  rw [HT.sIx_nat, HT.sIx_nat]
  by_cases h : k + b ≤ xs.length
  · rw [Nat.min_eq_left h, Nat.min_eq_left (by omega)]
    congr 1
    omega
  · rw [Nat.min_eq_right (by omega)]
    by_cases h2 : k ≤ xs.length
    · rw [Nat.min_eq_left h2, List.take_of_length_le (by rw [List.length_drop]; exact Nat.le_refl _), List.take_of_length_le (by rw [List.length_drop]; omega)]
    · rw [Nat.min_eq_right (by omega), List.drop_eq_nil_of_le (Nat.le_refl _), List.drop_eq_nil_of_le (by omega), List.take_nil, List.take_nil]
theorem tab_ok {T : Tab} (h1 : 1 ≤ T.length) (h : ∀ (j : Nat) s, T[j]? = some s → s.size = j + 2) : Tab.Ok T := by
  refine ⟨h1, fun m h2 h3 => ?_⟩
  unfold Tab.entry
  rw [if_neg (by omega)]
  have hlt : m - 2 < T.length := by omega
  rw [List.getD_eq_getElem?_getD, List.getElem?_eq_getElem hlt]
  have := h (m - 2) _ (List.getElem?_eq_getElem hlt)
  show T[m - 2].size = m
  omega
section
variable {P : Program} {w : World} {K : PySem.W.Frag} {mg : Str → Option Value} {base : Heap}
/-! ### _law_any_table -/
theorem scLAny : FnScope ["_law_source_here", "_law_size_here", "_law_m"] ["_law_source_here", "_law_size_here"] (defScope sLAny) := ⟨rfl, rfl, rfl, by decide +kernel, rfl, by decide +kernel, by decide +kernel⟩
def spLAny : Sp := fun vs H Q _ => ∃ (d c : Addr) (b : Nat), vs = [.ref d, .int (b : Nat)] ∧ Src H d c ∧ 2 ≤ b ∧ b ≤ 7 ∧ ∀ (T : Tab) v H', SmX d c H H' → Src H' d c → Tab.Ok T → T.size = b → TabV H' T v → Q v H'
theorem ok_lany {f fS : Addr} {fd fdS : FuncData} (F : Fun K "_law_any_table" "_law_any_table" sLAny f fd) (DS : Df K mg "_law_shape" sLShape ["_law_source_here", "_law_n"] fS fdS) (GS : FnOk P w K mg base CX0 16 fS fdS ["_law_source_here", "_law_n"] (spLShape 7))
    (mt : mg "tuple" = none) (mr : mg "range" = none) : FnOk P w K mg base CX0 17 f fd ["_law_source_here", "_law_size_here"] spLAny := by
  refine F.ok scLAny (fun vs H Q E h => ?_) (fun cdv A outer s H vs Q E hr h => ?_)
  · obtain ⟨_, _, _, rfl, _⟩ := h
    rfl
  obtain ⟨d, c, b, rfl, hsrc, h2, h7, q⟩ := h
  refine ⟨_, pss_one (ps_ret (pe_callTy call_tuple_of (by rfl) mt PyProof.Rows.boot_tuple (pa_cons (pe_lc (own := [("_law_m", 2)]) (g := gName 2) (tt := tYes) rfl scLAny.nd (pi_range2 (by rfl) mr (pa_cons pe_int (pa_cons (pe_op op_add (pv 1) pe_int) pa_nil)))
    (blkOk_by (own := [("_law_m", 2)]) (N := ["_law_source_here", "_law_size_here", "_law_m"]) (sc := defScope sLAny) (by decide +kernel)) (fun _ _ _ _ _ => pg_name (i := 2) scLAny.nd rfl (.inl rfl)) (fun _ _ _ _ _ => pts_nil)
    (fun _ _ _ _ _ => pe_df DS GS hr (by rfl) (pa_cons (pv 0) (pa_cons (pv 2) pa_nil)))) pa_nil))), ?_⟩
  refine ⟨_, rfl, _, _, rfl, rfl, 2, _, rfl, ⟨by omega, by omega, by omega, by omega⟩, fun D hD => ?_⟩
  have eN : (((b : Nat) : Int) + 1 - 2).toNat = b - 1 := by omega
  rw [eN]
  have oD := hsrc.off hD
  refine lc_it walk_range (fun i H' => SmX d c H H' ∧ Src H' d c ∧ ∃ us T, H' D = some (.lst us) ∧ ShVs H' T us ∧ T.length = i ∧ ∀ (j : Nat) s, T[j]? = some s → s.size = j + 2) ⟨.same (same_new hD), hsrc.same (same_new hD), [], [], upd_same, .nil, rfl, fun j s e => by cases e⟩ (fun _ _ _ _ => trivial) (fun i x H0 H1 hi h y => ?_) (fun H' h => ?_)
  · obtain ⟨sm, hs, us, T, hus, hT, hl, hz⟩ := h
    obtain ⟨rfl, rfl⟩ := y
    refine ⟨rfl, yes_go ?_⟩
    refine ⟨_, rfl, _, rfl, d, c, i + 2, ?_, hs, by omega, by omega, by omega, fun s v H2 sm2 hs2 hv hzs => ⟨us, sm2 _ _ hus oD.1 oD.2, ?_, (sm.trans sm2).wr hD, hs2.wr oD.1 oD.2, us ++ [v], T ++ [s], upd_same, ?_, by rw [List.length_append, hl]; rfl, fun j s' e => ?_⟩⟩
    · have e : (2 : Int) + ((i : Nat) : Int) = ((i + 2 : Nat) : Int) := by omega
      show [V.ref d, V.int ((2 : Int) + ((i : Nat) : Int))] = _
      rw [e]
    · rw [hT.len, hl]
      exact lt_line (by omega)
    · have k2 := sm2.tupK hs
      have k3 : TupK H2 (upd H2 D (.lst (us ++ [v]))) := (NL.wr (sm2 _ _ hus oD.1 oD.2)).tupK
      exact ((hT.keep k2).keep k3).append (.one (hv.keep k3))
    · by_cases hj : j < i
      · rw [List.getElem?_append_left (by omega)] at e
        exact hz j s' e
      · rw [List.getElem?_append_right (by omega)] at e
        have hj2 : j - T.length = 0 := by
          have := (List.getElem?_eq_some_iff.mp e).1
          rw [List.length_singleton] at this
          omega
        rw [hj2] at e
        cases e
        omega
  · obtain ⟨sm, hs, us, T, hus, hT, hl, hz⟩ := h
    refine ⟨D, us, rfl, .inl ⟨SqL.of hus, fun t ht => ?_⟩⟩
    have s2 := fun o => same_new (o := o) ht
    exact q T _ _ (sm.trans (.same (s2 _))) (hs.same (s2 _)) (tab_ok (by omega) hz) (by unfold Tab.size; omega) ⟨t, us, rfl, upd_same, hT.same (s2 _)⟩
/-! ### _law_entry -/
theorem scLEntry : FnScope ["_law_table", "_law_m"] ["_law_table", "_law_m"] (defScope sLEntry) := ⟨rfl, rfl, rfl, by decide +kernel, rfl, by decide +kernel, by decide +kernel⟩
def spLEntry : Sp := fun vs H Q _ => ∃ (T : Tab) (v : V) (m : Nat), vs = [v, .int (m : Nat)] ∧ TabV H T v ∧ 1 ≤ m ∧ m ≤ T.size ∧ ∀ u H', Same H H' → ShV H' (T.entry m) u → Q u H'
theorem ok_lentry {f : Addr} {fd : FuncData} (F : Fun K "_law_entry" "_law_entry" sLEntry f fd) : FnOk P w K mg base CX0 1 f fd ["_law_table", "_law_m"] spLEntry := by
  refine F.ok scLEntry (fun vs H Q E h => ?_) (fun cdv A outer s H vs Q E hr h => ?_)
  · obtain ⟨_, _, _, rfl, _⟩ := h
    rfl
  obtain ⟨T, v, m, rfl, ⟨a, us, rfl, ha, hT⟩, h1, h2, q⟩ := h
  refine ⟨_, pss_one (ps_ret (pe_ifExp (pt_cmpR op_eq (pv 1) pe_int (nomark _)) (pe_tup pa_nil) (pe_ix ix_tup (pv 0) (pe_op op_sub (pv 1) pe_int) (fun _ _ => rfl)))), ?_⟩
  refine ⟨_, rfl, rfl, _, rfl, ?_⟩
  by_cases hm : m = 1
  · subst hm
    rw [show decide (V.int ((1 : Nat) : Int) = V.int 1) = true from by decide]
    exact iteT ⟨le_line (by simp), fun p hp => q _ _ (same_new hp) ⟨p, rfl, upd_same⟩⟩
  · rw [decide_eq_false (fun z => by have := V.int.inj z; omega)]
    have hlt : m - 2 < T.length := by
      unfold Tab.size at h2
      omega
    obtain ⟨u, e1, e2⟩ := hT.get (List.getElem?_eq_getElem hlt)
    have e : ((m : Nat) : Int) - 2 = ((m - 2 : Nat) : Int) := by omega
    refine iteF ⟨_, rfl, _, rfl, _, _, rfl, rfl, a, us, _, u, rfl, rfl, SqT.of ha, ?_, q u H (fun _ _ z => z) ?_⟩
    · show atI us (((m : Nat) : Int) - 2) = _
      rw [e]
      exact atI_nat e1
    · unfold Tab.entry
      rw [if_neg (by omega), List.getD_eq_getElem?_getD, List.getElem?_eq_getElem hlt]
      exact e2
/-! ### _law_filled -/
theorem scLFilled : FnScope ["_law_form", "_law_lumps", "_law_size_here"] ["_law_form", "_law_lumps"] (defScope sLFilled) := ⟨rfl, rfl, rfl, by decide +kernel, rfl, by decide +kernel, by decide +kernel⟩
def spLFilled (N : Nat) : Sp := fun vs H Q _ => ∃ (v : V) (a : Addr) (s : Sh) (row : List Sh) (us : List V), vs = [v, .ref a] ∧ ShV H s v ∧ s.size ≤ N ∧ N ≤ 60 ∧ H a = some (.lst us) ∧ ShVs H row us ∧ row.length = s.size ∧
  ∀ u H', Same H H' → ShV H' (fill s row) u → Q u H'
theorem ok_lfilled {f fS : Addr} {fd fdS : FuncData} (D : Df K mg "_law_filled" sLFilled ["_law_form", "_law_lumps"] f fd) (DS : Df K mg "_law_size" sLSize ["_law_form"] fS fdS) : ∀ N : Nat, N ≤ 60 → FnOk P w K mg base CX0 (N + 1) f fd ["_law_form", "_law_lumps"] (spLFilled N)
  | 0, _ => by
    have no : ∀ vs H Q E, ¬ spLFilled 0 vs H Q E := fun vs H Q E h => by
      obtain ⟨v, a, s, _, _, _, _, hz, _⟩ := h
      have := size_pos s
      omega
    exact ⟨fun vs H Q E h => absurd h (no vs H Q E), fun A outer s H args us vs Q E _ _ _ _ h => absurd h (no vs H Q E)⟩
  | N + 1, hN => by
    have G : FnOk P w K mg base CX0 (N + 1) f fd ["_law_form", "_law_lumps"] (spLFilled N) := ok_lfilled D DS N (by omega)
    have GS : FnOk P w K mg base CX0 (N + 1) fS fdS ["_law_form"] (spLSize N) := ok_lsize DS N (by omega)
    refine D.fn.ok scLFilled (fun vs H Q E h => ?_) (fun cdv A outer s H vs Q E hr h => ?_)
    · obtain ⟨_, _, _, _, _, rfl, _⟩ := h
      rfl
    obtain ⟨v, a, t, row, us, rfl, hv, hz, hN2, ha, hrow, hl, q⟩ := h
    refine ⟨_, pss_cons (ps_if (pt_cmpR (op_eqD hr.units) (pv 0) (pe_tup pa_nil) (nomark _)) (pss_one (ps_ret (pe_ix ix_list (pv 1) pe_int (fun _ _ => rfl)))) pss_nil)
      (pss_cons (ps_set (i := 2) scLFilled.nd rfl (.inl rfl) (pe_df DS GS hr (by rfl) (pa_cons (pe_ix ix_tup (pv 0) pe_int (fun _ _ => rfl)) pa_nil)))
      (pss_one (ps_ret (pe_tup (pa_cons (pe_df D G hr (by rfl) (pa_cons (pe_ix ix_tup (pv 0) pe_int (fun _ _ => rfl)) (pa_cons (pe_slice sl_list (pv 1) po_none (po_some (pv 2))) pa_nil)))
        (pa_cons (pe_df D G hr (by rfl) (pa_cons (pe_ix ix_tup (pv 0) pe_int (fun _ _ => rfl)) (pa_cons (pe_slice sl_list (pv 1) (po_some (pv 2)) po_none) pa_nil))) pa_nil)))))), ?_⟩
    refine ⟨_, rfl, le_line (by simp), fun e he => ?_⟩
    have s1 : Same H (upd H e (.tup [])) := same_new he
    refine ⟨_, _, (hv.same s1).dp, ShV.dp (s := .o) ⟨e, rfl, upd_same⟩, dat_shaped (by omega), dat_shaped (by decide), _, rfl, ?_⟩
    rw [dat_eqv]
    cases t with
    | o =>
      rw [decide_eq_true rfl]
      match row, hl, hrow, q with
      | [x], _, .cons hx .nil, q => exact iteT ⟨_, rfl, a, _, 0, _, rfl, rfl, SqL.of (s1 _ _ ha), atI_nat (j := 0) rfl, q _ _ s1 (hx.same s1)⟩
    | p l r =>
      rw [decide_eq_false (show ¬ Sh.p l r = .o from fun z => by cases z)]
      have hlp := size_pos l
      have hrp := size_pos r
      have hz' : l.size + r.size ≤ N + 1 := hz
      have hl' : row.length = l.size + r.size := hl
      obtain ⟨b, x, y, rfl, hb, hx, hy⟩ := hv.same s1
      refine iteF ⟨_, rfl, b, _, 0, x, rfl, rfl, SqT.of hb, atI_nat (j := 0) rfl, x, l, rfl, hx, by omega, fun H2 s2 => ?_⟩
      have sA := s1.trans s2
      refine ⟨_, rfl, b, _, 0, x, rfl, rfl, SqT.of (s2 _ _ hb), atI_nat (j := 0) rfl, _, rfl, _, rfl, _, rfl, a, us, rfl, SqL.of (sA _ _ ha), fun p1 hp1 => ?_⟩
      rw [cut_take]
      have k1 := fun o => same_new (o := o) hp1
      refine ⟨x, p1, l, row.take l.size, us.take l.size, rfl, hx.same (s2.trans (k1 _)), by omega, by omega, upd_same, ((hrow.same (sA.trans (k1 _))).take l.size), by rw [List.length_take]; omega, fun u1 H3 s3 hu1 => ?_⟩
      have sB := (k1 (.lst (us.take l.size))).trans s3
      refine ⟨_, rfl, b, _, 1, y, rfl, rfl, SqT.of (sB _ _ (s2 _ _ hb)), atI_nat (j := 1) rfl, _, rfl, _, rfl, _, rfl, a, us, rfl, SqL.of (sB _ _ (sA _ _ ha)), fun p2 hp2 => ?_⟩
      rw [cut_drop]
      have k2 := fun o => same_new (o := o) hp2
      refine ⟨y, p2, r, row.drop l.size, us.drop l.size, rfl, hy.same (s2.trans (sB.trans (k2 _))), by omega, by omega, upd_same, ((hrow.same (sA.trans (sB.trans (k2 _)))).drop l.size), by rw [List.length_drop]; omega, fun u2 H4 s4 hu2 => ⟨le_line (by simp), fun t ht => ?_⟩⟩
      have k3 := fun o => same_new (o := o) ht
      have sC := (k2 (.lst (us.drop l.size))).trans s4
      exact q _ _ (sA.trans (sB.trans (sC.trans (k3 _)))) ⟨t, u1, u2, rfl, upd_same, hu1.same (sC.trans (k3 _)), hu2.same (k3 _)⟩
/-! ### _law_pressed -/
theorem scLPressed : FnScope ["_law_table", "_law_row", "_law_size_here", "_law_found", "_law_k"] ["_law_table", "_law_row"] (defScope sLPressed) := ⟨rfl, rfl, rfl, by decide +kernel, rfl, by decide +kernel, by decide +kernel⟩
def spLPressed : Sp := fun vs H Q _ => ∃ (T : Tab) (v : V) (a : Addr) (row : List Sh) (us : List V), vs = [v, .ref a] ∧ TabV H T v ∧ Tab.Ok T ∧ T.size ≤ 60 ∧ H a = some (.lst us) ∧ ShVs H row us ∧ 1 ≤ row.length ∧ row.length ≤ 60 ∧
  ∀ p ws H', Same H H' → H p = none → H' p = some (.lst ws) → ShVs H' (press T row) ws → Q (.ref p) H'
theorem ok_lpressed {f fE fF : Addr} {fd fdE fdF : FuncData} (F : Fun K "_law_pressed" "_law_pressed" sLPressed f fd) (DE : Df K mg "_law_entry" sLEntry ["_law_table", "_law_m"] fE fdE) (DF : Df K mg "_law_filled" sLFilled ["_law_form", "_law_lumps"] fF fdF)
    (GF : FnOk P w K mg base CX0 61 fF fdF ["_law_form", "_law_lumps"] (spLFilled 60)) (ml : mg "len" = none) (mr : mg "range" = none) : FnOk P w K mg base CX0 62 f fd ["_law_table", "_law_row"] spLPressed := by
  have GE : FnOk P w K mg base CX0 1 fE fdE ["_law_table", "_law_m"] spLEntry := ok_lentry DE.fn
  refine F.ok scLPressed (fun vs H Q E h => ?_) (fun cdv A outer s H vs Q E hr h => ?_)
  · obtain ⟨_, _, _, _, _, rfl, _⟩ := h
    rfl
  obtain ⟨T, v, a, row, us, rfl, ⟨b, ts, rfl, hb, hts⟩, hT, hTz, ha, hrow, hl1, hl60, q⟩ := h
  have hr1 : Room 1 (A.deeper (envOfC "_law_pressed" (defScope sLPressed) s.heap.objs.size f cdv)) := hr.mono (by decide)
  refine ⟨_, pss_cons (ps_par (i := 2) (j := 3) rfl scLPressed.nd rfl rfl (by decide) rfl rfl (pa_cons (pe_op op_add (pe_callB call_len_seq (by rfl) ml PySem.boot_len (pa_cons (pv 0) pa_nil)) pe_int) (pa_cons (pe_lst pa_nil) pa_nil)) (by rfl))
    (pss_cons (ps_for PassesOwn.never rfl (pi_range3 (by rfl) mr (pa_cons pe_int (pa_cons (pe_callB call_len_seq (by rfl) ml PySem.boot_len (pa_cons (pv 1) pa_nil)) (pa_cons (pv 2) pa_nil)))) (pg_name (i := 4) scLPressed.nd rfl (.inl rfl))
      (pss_one (ps_expr (pe_bm PySem.F.plainAttrs_list PySem.F.slot_list_append PySem.F.type_list_append mt_append (pv 3) (pa_cons (pe_df DF GF hr (by rfl) (pa_cons (pe_df DE GE hr1 (by rfl) (pa_cons (pv 0) (pa_cons (pe_callB call_len_seq (by rfl) ml PySem.boot_len
        (pa_cons (pe_slice sl_list (pv 1) (po_some (pv 4)) (po_some (pe_op op_add (pv 4) (pv 2)))) pa_nil)) pa_nil))) (pa_cons (pe_slice sl_list (pv 1) (po_some (pv 4)) (po_some (pe_op op_add (pv 4) (pv 2)))) pa_nil))) pa_nil)))))
    (pss_one (ps_ret (pv 3)))), ?_⟩
  have hb2 := Tab.size_ge hT
  have htl := hts.len
  have hul := hrow.len
  have eb : ((ts.length : Nat) : Int) + 1 = ((T.size : Nat) : Int) := by
    unfold Tab.size
    omega
  refine ⟨_, rfl, b, ts, rfl, .inr (SqT.of hb), _, _, rfl, rfl, le_line (Nat.zero_le _), fun p hp => ⟨_, _, rfl, ?_⟩⟩
  have s0 : Same H (upd H p (.lst [])) := same_new hp
  refine ⟨_, rfl, a, us, rfl, .inl (SqL.of (s0 _ _ ha)), _, rfl, _, _, _, ups T.size row.length, rfl, ?_, ?_⟩
  · show RgC 0 ((us.length : Nat) : Int) (((ts.length : Nat) : Int) + 1) _
    rw [hul, eb]
    exact rg_up (by omega) (by omega) (by omega)
  refine for_it walk_rangeC (fun i σ H' => ∃ y ws, σ = [some (.ref b), some (.ref a), some (.int (((ts.length : Nat) : Int) + 1)), some (.ref p), y] ∧ Same H H' ∧ H' p = some (.lst ws) ∧ ShVs H' ((press T row).take i) ws) ⟨_, [], rfl, s0, upd_same, by rw [List.take_zero]; exact .nil⟩ (fun _ _ _ _ _ => trivial) (fun i x σ H1 H2 hi h y => ?_) (fun σ H' h => ?_)
  · obtain ⟨y4, ws, rfl, sm, hp1, hws⟩ := h
    obtain ⟨rfl, rfl⟩ := y
    have hgi := press_get hT hi
    have hc := cut_pos (b := T.size) (m := row.length) (i := i) (by omega) hi
    have hes := Tab.entry_size hT hc (cut_le _ _ _)
    have hcb := cut_le T.size row.length i
    have e3 : cutV us (some ((0 : Int) + ((i : Nat) : Int) * (((ts.length : Nat) : Int) + 1))) (some ((0 : Int) + ((i : Nat) : Int) * (((ts.length : Nat) : Int) + 1) + (((ts.length : Nat) : Int) + 1))) = (us.drop (i * T.size)).take T.size := by
      rw [eb]
      have e1 : (0 : Int) + ((i : Nat) : Int) * ((T.size : Nat) : Int) = ((i * T.size : Nat) : Int) := by
        rw [Int.natCast_mul]
        omega
      rw [e1, show ((i * T.size : Nat) : Int) + ((T.size : Nat) : Int) = ((i * T.size + T.size : Nat) : Int) by omega, cut_mid]
    have hlen : ((us.drop (i * T.size)).take T.size).length = cut T.size row.length i := by
      rw [List.length_take, List.length_drop, hul]
      rfl
    have hab := sm _ _ ha
    refine ⟨_, rfl, .inl ⟨rfl, _, .inl (.inl hp1)⟩, _, rfl, _, rfl, _, rfl, _, rfl, _, rfl, _, rfl, _, _, rfl, rfl, _, rfl, a, us, rfl, SqL.of hab, fun p1 hp1n => ?_⟩
    have k1 := fun o => same_new (o := o) hp1n
    refine ⟨p1, _, rfl, .inl (SqL.of upd_same), T, .ref b, cut T.size row.length i, ?_, ⟨b, ts, rfl, k1 _ _ _ (sm _ _ hb), hts.same (sm.trans (k1 _))⟩, hc, cut_le _ _ _, fun u1 H2 s2 hu1 => ?_⟩
    · show [V.ref b, V.int (((cutV us (some ((0 : Int) + ((i : Nat) : Int) * (((ts.length : Nat) : Int) + 1))) (some ((0 : Int) + ((i : Nat) : Int) * (((ts.length : Nat) : Int) + 1) + (((ts.length : Nat) : Int) + 1)))).length : Nat) : Int)] = _
      rw [e3, hlen]
    have sA := (k1 (.lst (cutV us (some ((0 : Int) + ((i : Nat) : Int) * (((ts.length : Nat) : Int) + 1))) (some ((0 : Int) + ((i : Nat) : Int) * (((ts.length : Nat) : Int) + 1) + (((ts.length : Nat) : Int) + 1)))))).trans s2
    refine ⟨_, rfl, _, rfl, _, rfl, _, rfl, _, rfl, _, _, rfl, rfl, _, rfl, a, us, rfl, SqL.of (sA _ _ hab), fun p2 hp2n => ?_⟩
    have k2 := fun o => same_new (o := o) hp2n
    refine ⟨u1, p2, T.entry (cut T.size row.length i), (row.drop (i * T.size)).take T.size, _, rfl, hu1.same (k2 _), by omega, by omega, upd_same, ?_, ?_, fun u3 H3 s3 hu3 => ?_⟩
    · show ShVs _ _ (cutV us (some ((0 : Int) + ((i : Nat) : Int) * (((ts.length : Nat) : Int) + 1))) (some ((0 : Int) + ((i : Nat) : Int) * (((ts.length : Nat) : Int) + 1) + (((ts.length : Nat) : Int) + 1))))
      rw [e3]
      exact ((hrow.same (sm.trans (sA.trans (k2 _)))).drop _).take _
    · rw [hes, List.length_take, List.length_drop]
      rfl
    · have sB := sA.trans ((k2 _).trans s3)
      refine ⟨p, ws, u3, rfl, rfl, sB _ _ hp1, ?_, _, _, rfl, same_wr (sm.trans sB) hp, upd_same, ?_⟩
      · rw [hws.len, List.length_take, press_len]
        have := ups_le (b := T.size) (m := row.length) (by omega)
        exact lt_line (by omega)
      · have kW : NL H3 (upd H3 p (.lst (ws ++ [u3]))) := NL.wr (sB _ _ hp1)
        rw [take_succ' hgi]
        exact ((hws.same sB).keep kW.tupK).append (.one (hu3.keep kW.tupK))
  · obtain ⟨y4, ws, rfl, sm, hp1, hws⟩ := h
    rw [← press_len, List.take_length] at hws
    exact ⟨_, rfl, q p ws H' sm hp hp1 hws⟩
end
end Lp
set_option Elab.async false
set_option linter.all false
set_option maxRecDepth 100000
set_option maxHeartbeats 4000000
/-! The law's plan: _law_stage, _law_told. -/
namespace Lp
open PySem PySem.Spec PyProof.Rows L2 Sh
def kTables : L2.Key := Sum.inr "tables"
def kEnd : L2.Key := Sum.inr "end"
def wKv (t : Addr) (left : Bool) : List (L2.Key × V) := [(kTables, .ref t), (kEnd, .str (sideS left))]
/-- the law's plan at w -/
def Wd (H : Hp) (w : Addr) (left : Bool) (Ts : List Tab) : Prop :=
  ∃ t us, H w = some (.dK (wKv t left)) ∧ H t = some (.tup us) ∧ us.length = Ts.length ∧ ∀ (k : Nat) T, Ts[k]? = some T → ∃ v, us[k]? = some v ∧ TabV H T v
theorem Wd.keep {H H' : Hp} {w : Addr} {left : Bool} {Ts : List Tab} (h : Wd H w left Ts) (k : TupK H H') (kw : ∀ o, H w = some o → H' w = some o) : Wd H' w left Ts :=
  let ⟨t, us, e1, e2, e3, e4⟩ := h; ⟨t, us, kw _ e1, k _ _ e2, e3, fun j T q => let ⟨v, f1, f2⟩ := e4 j T q; ⟨v, f1, f2.keep k⟩⟩
theorem Wd.same {H H' : Hp} {w : Addr} {left : Bool} {Ts : List Tab} (h : Wd H w left Ts) (k : Same H H') : Wd H' w left Ts := h.keep (Same.tupK k) fun o e => k _ _ e
theorem testS {c : TT} {σ : L2.St} {H : Hp} {k : Bool → Hp → Prop} (b : Bool) (h : ∀ k : Bool → Hp → Prop, (∀ H', Same H H' → k b H') → c σ H k) (hk : ∀ H', Same H H' → k b H') : c σ H k := h k hk
theorem shvs_ones {H : Hp} {v : V} (h : ShV H .o v) : ∀ n : Nat, ShVs H (List.replicate n .o) (List.replicate n v)
  | 0 => .nil
  | n + 1 => .cons h (shvs_ones h n)
section
variable {P : Program} {w : World} {K : PySem.W.Frag} {mg : Str → Option Value} {base : Heap}
/-! ### _law_stage -/
theorem scLStage : FnScope ["_law_world", "_law_k"] ["_law_world", "_law_k"] (defScope sLStage) := ⟨rfl, rfl, rfl, by decide +kernel, rfl, by decide +kernel, by decide +kernel⟩
def spLStage : Sp := fun vs H Q _ => ∃ (d : Addr) (left : Bool) (Ts : List Tab) (k : Nat), vs = [.ref d, .int (k : Nat)] ∧ Wd H d left Ts ∧ (∀ T v H', Ts[k]? = some T → Same H H' → TabV H' T v → Q v H') ∧ (Ts.length ≤ k → ∀ H', Same H H' → Q .non H')
theorem side_in (left : Bool) : inV (.str (sideS left)) [.str "left", .str "right"] = true := by cases left <;> decide +kernel
theorem ok_lstage {f : Addr} {fd : FuncData} (F : Fun K "_law_stage" "_law_stage" sLStage f fd) (ml : mg "len" = none) : FnOk P w K mg base CX0 1 f fd ["_law_world", "_law_k"] spLStage := by
  refine F.ok scLStage (fun vs H Q E h => ?_) (fun cdv A outer s H vs Q E hr h => ?_)
  · obtain ⟨_, _, _, _, rfl, _⟩ := h
    rfl
  obtain ⟨d, left, Ts, k, rfl, ⟨t, us, hd, ht, hl, hT⟩, q1, q2⟩ := h
  have hu := hu_of hr
  refine ⟨_, pss_cons (ps_if (pt_cmpR op_lt (pv 1) (pe_callB call_len_seq (by rfl) ml PySem.boot_len (pa_cons (pe_dget hu (pv 0) pe_str (fun _ _ => rfl)) pa_nil)) (nomark _)) (pss_one (ps_ret (pe_ix ix_tup (pe_dget hu (pv 0) pe_str (fun _ _ => rfl)) (pv 1) (fun _ _ => rfl)))) pss_nil)
    (pss_cons (ps_if (pt_cmpR op_in_seq (pe_dget hu (pv 0) pe_str (fun _ _ => rfl)) (pe_tup (pa_cons pe_str (pa_cons pe_str pa_nil))) (by rfl)) (pss_one (ps_ret pe_non)) pss_nil) pss_never), ?_⟩
  refine ⟨_, rfl, _, rfl, d, _, rfl, DGet.k (k := kTables) hd, t, us, rfl, .inr (SqT.of ht), _, _, rfl, rfl, _, rfl, ?_⟩
  by_cases hk : k < Ts.length
  · rw [decide_eq_true (show ((k : Nat) : Int) < ((us.length : Nat) : Int) by omega)]
    obtain ⟨v, e1, e2⟩ := hT k _ (List.getElem?_eq_getElem hk)
    exact iteT ⟨_, rfl, d, _, rfl, DGet.k (k := kTables) hd, _, rfl, t, us, _, v, rfl, rfl, SqT.of ht, atI_nat e1, q1 _ v H (List.getElem?_eq_getElem hk) (fun _ _ z => z) e2⟩
  · rw [decide_eq_false (show ¬ ((k : Nat) : Int) < ((us.length : Nat) : Int) by omega)]
    refine iteF ⟨_, rfl, d, _, rfl, DGet.k (k := kEnd) hd, le_line (by simp), fun e he => ?_⟩
    have s1 := fun o => same_new (o := o) he
    refine ⟨e, _, rfl, .inr (SqT.of upd_same), by cases left <;> rfl, by decide, _, rfl, ?_⟩
    rw [side_in]
    exact iteT (q2 (by omega) _ (s1 _))
/-! ### _law_told -/
theorem scLTold : FnScope ["_law_world", "_law_n", "_law_row", "_law_k"] ["_law_world", "_law_n"] (defScope sLTold) := ⟨rfl, rfl, rfl, by decide +kernel, rfl, by decide +kernel, by decide +kernel⟩
def spLTold : Sp := fun vs H Q _ => ∃ (d : Addr) (left : Bool) (Ts : List Tab) (n : Nat), vs = [.ref d, .int (n : Nat)] ∧ Wd H d left Ts ∧ TsOk Ts ∧ 1 ≤ n ∧ n ≤ 60 ∧ ∀ v H', Same H H' → ShV H' (tell left Ts n) v → Q v H'
theorem ok_ltold {f fS fP fF fC : Addr} {fd fdS fdP fdF fdC : FuncData} (F : Fun K "_law_told" "_law_told" sLTold f fd) (DS : Df K mg "_law_stage" sLStage ["_law_world", "_law_k"] fS fdS) (DP : Df K mg "_law_pressed" sLPressed ["_law_table", "_law_row"] fP fdP)
    (GP : FnOk P w K mg base CX0 62 fP fdP ["_law_table", "_law_row"] spLPressed) (DF : Df K mg "_law_filled" sLFilled ["_law_form", "_law_lumps"] fF fdF) (GF : FnOk P w K mg base CX0 61 fF fdF ["_law_form", "_law_lumps"] (spLFilled 60))
    (DC : Df K mg "_law_comb" sLComb ["_law_n", "_law_side"] fC fdC) (ml : mg "len" = none) (mr : mg "range" = none) : FnOk P w K mg base CX0 63 f fd ["_law_world", "_law_n"] spLTold := by
  have GS : FnOk P w K mg base CX0 1 fS fdS ["_law_world", "_law_k"] spLStage := ok_lstage DS.fn ml
  have GC : FnOk P w K mg base CX0 1 fC fdC ["_law_n", "_law_side"] spComb := ok_lcomb DC.fn mr
  refine F.ok scLTold (fun vs H Q E h => ?_) (fun cdv A outer s H vs Q E hr h => ?_)
  · obtain ⟨_, _, _, _, rfl, _⟩ := h
    rfl
  obtain ⟨d, left, Ts, n, rfl, hW, hT, hn1, hn60, q⟩ := h
  have hu := hu_of hr
  have hr1 : Room 1 (A.deeper (envOfC "_law_told" (defScope sLTold) s.heap.objs.size f cdv)) := hr.mono (by decide)
  have hr61 : Room 61 (A.deeper (envOfC "_law_told" (defScope sLTold) s.heap.objs.size f cdv)) := hr.mono (by decide)
  refine ⟨_, pss_cons (ps_par (i := 2) (j := 3) rfl scLTold.nd rfl rfl (by decide) rfl rfl (pa_cons (pe_op op_rep (pe_lst (pa_cons (pe_tup pa_nil) pa_nil)) (pv 1)) (pa_cons pe_int pa_nil)) (by rfl))
    (pss_cons (ps_while PassesOwn.never (PW.pt (pw_and (pt_cmpR op_gt (pe_callB call_len_seq (by rfl) ml PySem.boot_len (pa_cons (pv 2) pa_nil)) pe_int (nomark _))
        (pw_and1 (pt_cmpR op_notN (pe_df DS GS hr1 (by rfl) (pa_cons (pv 0) (pa_cons (pv 3) pa_nil))) pe_non (nomark _)))))
      (pss_one (ps_par (i := 2) (j := 3) rfl scLTold.nd rfl rfl (by decide) rfl rfl (pa_cons (pe_df DP GP hr (by rfl) (pa_cons (pe_df DS GS hr1 (by rfl) (pa_cons (pv 0) (pa_cons (pv 3) pa_nil))) (pa_cons (pv 2) pa_nil)))
        (pa_cons (pe_op op_add (pv 3) pe_int) pa_nil)) (by rfl))))
    (pss_one (ps_ret (pe_ifExp (pt_cmpR op_gt (pe_callB call_len_seq (by rfl) ml PySem.boot_len (pa_cons (pv 2) pa_nil)) pe_int (nomark _))
      (pe_df DF GF hr61 (by rfl) (pa_cons (pe_df DC GC hr1 (by rfl) (pa_cons (pe_callB call_len_seq (by rfl) ml PySem.boot_len (pa_cons (pv 2) pa_nil)) (pa_cons (pe_dget hu (pv 0) pe_str (fun _ _ => rfl)) pa_nil))) (pa_cons (pv 2) pa_nil)))
      (pe_ix ix_list (pv 2) pe_int (fun _ _ => rfl)))))), ?_⟩
  refine ⟨le_line (by simp), fun e he => ⟨le_line (by simp), fun l hl => ⟨_, rfl, l, _, _, rfl, rfl, upd_same, by omega, by omega, ?_, fun p hp => ⟨_, _, rfl, ?_⟩⟩⟩⟩
  · show 1 * (((n : Nat) : Int)).toNat ≤ _
    exact le_line (by omega)
  have s1 := fun o => same_new (o := o) he
  have s2 := fun o => same_new (o := o) hl
  have s3 := fun o => same_new (o := o) hp
  have sA := (s1 (.tup [])).trans ((s2 (.lst [.ref e])).trans (s3 (.lst (List.replicate (((n : Nat) : Int)).toNat [V.ref e]).flatten)))
  refine ⟨fun m σ H' => ∃ (k : Nat) (row : List Sh) (us : List V) (ra : Addr), σ = [some (.ref d), some (.int (n : Nat)), some (.ref ra), some (.int (k : Nat))] ∧ Same H H' ∧ H' ra = some (.lst us) ∧ ShVs H' row us ∧ k ≤ Ts.length ∧ 1 ≤ row.length ∧ row.length ≤ n ∧
    fill (tell left (Ts.drop k) row.length) row = tell left Ts n ∧ m = Ts.length - k, ⟨_, 0, List.replicate n .o, List.replicate n (.ref e), p, rfl, sA, ?_, ?_, Nat.zero_le _, ?_, ?_, ?_, rfl⟩, ?_⟩
  · rw [upd_same]
    show some (HO.lst (List.replicate (((n : Nat) : Int)).toNat [V.ref e]).flatten) = _
    rw [Int.toNat_natCast, List.flatten_replicate_singleton]
  · exact shvs_ones ⟨e, rfl, s3 _ _ _ (s2 _ _ _ upd_same)⟩ n
  · rw [List.length_replicate]
    exact hn1
  · rw [List.length_replicate]
    exact Nat.le_refl _
  · rw [List.length_replicate, List.drop_zero]
    have hz := tell_size left Ts n hT.ok hn1
    have := fill_ones (tell left Ts n)
    rw [hz] at this
    exact this
  rintro m σ H3 ⟨k, row, us, ra, rfl, sm, hra, hrow, hk, h1, h2, hf, rfl⟩
  have hul := hrow.len
  have hW3 := hW.same sm
  refine testS (decide (1 < row.length ∧ k < Ts.length)) (fun kk hkk => ?_) ?_
  · refine ⟨_, rfl, ra, us, rfl, .inl (SqL.of hra), _, _, rfl, rfl, _, rfl, ?_⟩
    by_cases c1 : 1 < row.length
    · rw [decide_eq_true (show (1 : Int) < ((us.length : Nat) : Int) by omega)]
      refine iteT ⟨_, rfl, _, rfl, d, left, Ts, k, rfl, hW3, fun T v H' eT s' hv => ⟨rfl, _, rfl, ?_⟩, fun hle H' s' => ⟨rfl, _, rfl, ?_⟩⟩
      · obtain ⟨a, ts, ev, _⟩ := hv
        subst ev
        rw [decide_eq_false (fun z => by cases z)]
        have hlt := (List.getElem?_eq_some_iff.mp eT).1
        rw [decide_eq_true ⟨c1, hlt⟩] at hkk
        exact hkk H' s'
      · rw [decide_eq_true rfl]
        rw [decide_eq_false (fun z => by omega)] at hkk
        exact hkk H' s'
    · rw [decide_eq_false (show ¬ (1 : Int) < ((us.length : Nat) : Int) by omega)]
      rw [decide_eq_false (fun z => c1 z.1)] at hkk
      exact iteF (hkk H3 fun _ _ z => z)
  intro H4 s4
  have sm4 := sm.trans s4
  by_cases hb : 1 < row.length ∧ k < Ts.length
  · rw [decide_eq_true hb]
    refine iteT ⟨fun σ' H' => ∃ (k' : Nat) (row : List Sh) (us : List V) (ra : Addr), σ' = [some (.ref d), some (.int (n : Nat)), some (.ref ra), some (.int (k' : Nat))] ∧ Same H H' ∧ H' ra = some (.lst us) ∧ ShVs H' row us ∧ k' ≤ Ts.length ∧ 1 ≤ row.length ∧ row.length ≤ n ∧
      fill (tell left (Ts.drop k') row.length) row = tell left Ts n ∧ Ts.length - k' < Ts.length - k, fun σ' H' ⟨k', row, us, ra, a1, a2, a3, a4, a5, a6, a7, a8, a9⟩ => ⟨_, a9, k', row, us, ra, a1, a2, a3, a4, a5, a6, a7, a8, rfl⟩, ?_⟩
    refine ⟨_, rfl, _, rfl, d, left, Ts, k, rfl, hW3.same s4, fun T v H5 eT s5 hv => ?_, fun hle => absurd hb.2 (by omega)⟩
    have hTT := hT T (mem_of_get eT)
    have sB := s4.trans s5
    refine ⟨_, rfl, T, v, ra, row, us, rfl, hv, hTT.1, hTT.2, sB _ _ hra, hrow.same sB, h1, by omega, fun p' ws H6 s6 np' hp' hws => ⟨_, rfl, _, _, rfl, rfl, _, _, rfl, ?_⟩⟩
    have hbb := Tab.size_ge hTT.1
    have hul2 := ups_lt (b := T.size) (m := row.length) hbb (by omega)
    have hup := ups_pos (b := T.size) (m := row.length) (by omega) h1
    refine ⟨k + 1, press T row, ws, p', ?_, sm.trans (sB.trans s6), hp', hws, by omega, by rw [press_len]; omega, by rw [press_len]; omega, ?_, by omega⟩
    · show [some (V.ref d), some (V.int (n : Nat)), some (V.ref p'), some (V.int (((k : Nat) : Int) + 1))] = _
      rw [show ((k : Nat) : Int) + 1 = ((k + 1 : Nat) : Int) by omega]
    · rw [← hf, drop_cons eT]
      exact (tell_press left (T := T) (Ts := Ts.drop (k + 1)) (fun U hU => by
        rcases List.mem_cons.mp hU with z | z
        · rw [z]
          exact hTT.1
        · exact hT.ok U (List.mem_of_mem_drop z)) h1).symm
  · rw [decide_eq_false hb]
    have hra4 := s4 _ _ hra
    refine iteF ⟨_, rfl, ra, us, rfl, .inl (SqL.of hra4), _, _, rfl, rfl, _, rfl, ?_⟩
    by_cases c1 : 1 < row.length
    · rw [decide_eq_true (show (1 : Int) < ((us.length : Nat) : Int) by omega)]
      have hkT : k = Ts.length := by omega
      subst hkT
      rw [List.drop_length] at hf
      obtain ⟨t, vs, hd, _⟩ := hW3.same s4
      refine iteT ⟨_, rfl, ra, us, rfl, .inl (SqL.of hra4), _, rfl, d, _, rfl, DGet.k (k := kEnd) hd, row.length - 1, left, ?_, by omega, fun v5 H5 s5 hv5 => ⟨_, rfl, v5, ra, comb left (row.length - 1), row, us, rfl, hv5, ?_, by omega, s5 _ _ hra4, hrow.same (s4.trans s5), ?_, fun u H6 s6 hu6 => ?_⟩⟩
      · show [V.int ((us.length : Nat) : Int), _] = _
        rw [hul, show row.length = row.length - 1 + 1 by omega]
        rfl
      · rw [comb_size]
        omega
      · rw [comb_size]
        omega
      · refine q u H6 (sm4.trans (s5.trans s6)) ?_
        rw [← hf]
        exact hu6
    · rw [decide_eq_false (show ¬ (1 : Int) < ((us.length : Nat) : Int) by omega)]
      match row, h1, c1, hrow, hf with
      | [x], _, _, .cons hx .nil, hf =>
        have e1 : tell left (Ts.drop k) 1 = .o := tell_one left _ fun U hU => hT.ok U (List.mem_of_mem_drop hU)
        refine iteF ⟨_, rfl, ra, _, 0, _, rfl, rfl, SqL.of hra4, atI_nat (j := 0) rfl, q _ _ sm4 ?_⟩
        rw [← hf]
        show ShV H4 (fill (tell left (Ts.drop k) 1) [x]) _
        rw [e1]
        exact hx.same s4
      | _ :: _ :: _, _, c1, _, _ => exact absurd (show 1 < _ from Nat.succ_lt_succ (Nat.succ_pos _)) c1
end
end Lp
set_option Elab.async false
set_option linter.all false
set_option maxRecDepth 100000
set_option maxHeartbeats 4000000
/-! _law_used. -/
namespace Lp
open PySem PySem.Spec PyProof.Rows L2 Sh
/-- pairs of numbers at values -/
def PrV (H : Hp) (us : List V) (U : List (Nat × Nat)) : Prop := Paired (fun (v : V) (p : Nat × Nat) => ∃ t, v = .ref t ∧ H t = some (.tup [.int (p.1 : Nat), .int (p.2 : Nat)])) us U
theorem PrV.keep {H H' : Hp} {us : List V} {U : List (Nat × Nat)} (h : PrV H us U) (k : TupK H H') : PrV H' us U := by
  induction h with
  | nil => exact .nil
  | cons r _ ih =>
    obtain ⟨t, e1, e2⟩ := r
    exact .cons ⟨t, e1, k _ _ e2⟩ ih
theorem PrV.len {H : Hp} {us : List V} {U : List (Nat × Nat)} (h : PrV H us U) : us.length = U.length := Paired.length h
theorem PrV.same {H H' : Hp} {us : List V} {U : List (Nat × Nat)} (h : PrV H us U) (k : Same H H') : PrV H' us U := h.keep (Same.tupK k)
theorem PrV.append {H : Hp} : ∀ {us ws : List V} {U W : List (Nat × Nat)}, PrV H us U → PrV H ws W → PrV H (us ++ ws) (U ++ W)
  | _, _, _, _, .nil, s => s
  | _, _, _, _, .cons r t, s => .cons r (PrV.append t s)
theorem fmod_mod (n b : Nat) : ((n : Nat) : Int).fmod ((b : Nat) : Int) = ((n % b : Nat) : Int) := by
  rw [Int.fmod_eq_emod_of_nonneg _ (by omega)]
  rfl
theorem fdiv_div (n b : Nat) : ((n : Nat) : Int).fdiv ((b : Nat) : Int) = ((n / b : Nat) : Int) := by
  rw [Int.fdiv_eq_ediv_of_nonneg _ (by omega)]
  rfl
section
variable {P : Program} {w : World} {K : PySem.W.Frag} {mg : Str → Option Value} {base : Heap}
theorem scLUsed : FnScope ["_law_sizes_here", "_law_n", "_law_found", "_law_here", "_law_k", "_law_stretches", "_law_last", "_law_some", "_law_start", "_law_one"] ["_law_sizes_here", "_law_n"] (defScope sLUsed) := ⟨rfl, rfl, rfl, by decide +kernel, rfl, by decide +kernel, by decide +kernel⟩
def spLUsed : Sp := fun vs H Q _ => ∃ (s : Addr) (Ts : List Tab) (n : Nat), vs = [.ref s, .int (n : Nat)] ∧ H s = some (.lst (tsz Ts)) ∧ TsOk Ts ∧ Ts.length ≤ 3 ∧ 1 ≤ n ∧ n ≤ 60 ∧
  ∀ p us U H', Same H H' → H p = none → H' p = some (.lst us) → PrV H' us U → (∀ k m, (k, m) ∈ U ↔ usesK Ts n k m) → U.length ≤ 6 → Q (.ref p) H'
theorem ok_lused {f : Addr} {fd : FuncData} (F : Fun K "_law_used" "_law_used" sLUsed f fd) (mint : mg "int" = none) (mmin : mg "min" = none) (ml : mg "len" = none) (mr : mg "range" = none) (mset : mg "set" = none) (msort : mg "sorted" = none) :
    FnOk P w K mg base CX0 1 f fd ["_law_sizes_here", "_law_n"] spLUsed := by
  refine F.ok scLUsed (fun vs H Q E h => ?_) (fun cdv A outer s H vs Q E hr h => ?_)
  · obtain ⟨_, _, _, rfl, _⟩ := h
    rfl
  obtain ⟨a, Ts, n, rfl, ha, hT, hTl, hn1, hn60, q⟩ := h
  have hu := hu_of hr
  refine ⟨_, pss_cons (ps_asg (pe_tup (pa_cons (pe_lst pa_nil) (pa_cons (pv 1) pa_nil))) (pg_tup rfl (pgs_cons (pg_name (i := 2) scLUsed.nd rfl (.inl rfl)) (pgs_cons (pg_name (i := 3) scLUsed.nd rfl (.inr rfl)) pgs_nil))))
    (pss_cons (ps_for PassesOwn.never rfl (pi_range1 rfl mr (pa_cons (pe_callB call_len_seq (by rfl) ml PySem.boot_len (pa_cons (pv 0) pa_nil)) pa_nil)) (pg_name (i := 4) scLUsed.nd rfl (.inr rfl))
      (pss_cons (ps_setLc (i := 5) (own := [("_law_start", 8)]) (g := gName 8) (tt := tYes) (by rfl) scLUsed.nd rfl rfl (sw_true rfl rfl rfl (by decide +kernel))
        (pi_range3 (by rfl) mr (pa_cons pe_int (pa_cons (pe_callB (call_min2 rfl) (by rfl) mmin PyProof.Rows.boot_min (pa_cons (pv 3) (pa_cons (pe_op op_mul pe_int (pe_ix ix_list (pv 0) (pv 4) (fun _ _ => rfl))) pa_nil))) (pa_cons (pe_ix ix_list (pv 0) (pv 4) (fun _ _ => rfl)) pa_nil))))
        (blkOk_by (own := [("_law_start", 8)]) (N := ["_law_sizes_here", "_law_n", "_law_found", "_law_here", "_law_k", "_law_stretches", "_law_last", "_law_some", "_law_start", "_law_one"]) (sc := defScope sLUsed) (by decide +kernel)) (fun _ _ _ _ _ => pg_name (i := 8) scLUsed.nd rfl (.inl rfl)) (fun _ _ _ _ _ => pts_nil)
        (fun _ _ _ _ _ => pe_callB (call_min2 rfl) (by rfl) mmin PyProof.Rows.boot_min (pa_cons (pe_ix (r := L2.rIxL K) ix_list (pv 0) (pv 4) (fun _ _ => rfl)) (pa_cons (pe_op op_sub (pv 3) (pv 8)) pa_nil))))
      (pss_cons (ps_set (i := 6) scLUsed.nd rfl (.inl rfl) (pe_op op_modN (pe_callTy call_int1 (by rfl) mint PyProof.Rows.boot_int (pa_cons (pv 3) pa_nil)) (pe_ix ix_list (pv 0) (pv 4) (fun _ _ => rfl))))
      (pss_cons (ps_set (i := 7) scLUsed.nd rfl (.inl rfl) (pe_callB (cr_sortedSet rfl) (by rfl) msort (by decide +kernel) (pa_cons (pe_callTy (cr_setInts rfl) (by rfl) mset PyProof.Rows.boot_set (pa_cons
        (pe_lc (own := [("_law_one", 9)]) (g := gName 9) rfl scLUsed.nd (pi_list (pe_op op_cat (pe_slice sl_list (pv 5) po_none (po_some pe_int)) (pe_lst (pa_cons (pv 6) pa_nil))))
          (blkOk_by (own := [("_law_one", 9)]) (N := ["_law_sizes_here", "_law_n", "_law_found", "_law_here", "_law_k", "_law_stretches", "_law_last", "_law_some", "_law_start", "_law_one"]) (sc := defScope sLUsed) (by decide +kernel)) (fun _ _ _ _ _ => pg_name (i := 9) scLUsed.nd rfl (.inl rfl))
          (fun _ _ _ _ _ => pts_one (pt_cmpR op_gt (pv 9) pe_int (nomark _))) (fun _ _ _ _ _ => pv 9)) pa_nil)) pa_nil)))
      (pss_cons (ps_set (i := 2) scLUsed.nd rfl (.inl rfl) (pe_op op_cat (pv 2) (pe_lc (own := [("_law_one", 9)]) (g := gName 9) (tt := tYes) rfl scLUsed.nd (pi_list (pv 7))
          (blkOk_by (own := [("_law_one", 9)]) (N := ["_law_sizes_here", "_law_n", "_law_found", "_law_here", "_law_k", "_law_stretches", "_law_last", "_law_some", "_law_start", "_law_one"]) (sc := defScope sLUsed) (by decide +kernel)) (fun _ _ _ _ _ => pg_name (i := 9) scLUsed.nd rfl (.inl rfl))
          (fun _ _ _ _ _ => pts_nil) (fun _ _ _ _ _ => pe_tup (pa_cons (pv 4) (pa_cons (pv 9) pa_nil))))))
      (pss_one (ps_set (i := 3) scLUsed.nd rfl (.inr rfl) (pe_op op_fdivN (pe_op op_sub (pe_op op_add (pv 3) (pe_ix ix_list (pv 0) (pv 4) (fun _ _ => rfl))) pe_int) (pe_ix ix_list (pv 0) (pv 4) (fun _ _ => rfl))))))))))
    (pss_one (ps_ret (pv 2)))), ?_⟩
  refine ⟨le_line (by simp), fun p0 hp0 => ⟨_, rfl, le_line (by simp), fun t0 ht0 => ?_⟩⟩
  have s1 := fun o => same_new (o := o) hp0
  have s2 := fun o => same_new (o := o) ht0
  have sA := (s1 (.lst [])).trans (s2 (.tup [.ref p0, .int (n : Nat)]))
  refine ⟨t0, _, rfl, SqT.of upd_same, rfl, _, _, rfl, _, [], rfl, rfl, ?_⟩
  have eT : (((tsz Ts).length : Nat) : Int).toNat = Ts.length := by
    rw [tsz_len, Int.toNat_natCast]
  refine ⟨_, rfl, _, _, rfl, .inl (SqL.of (sA _ _ ha)), _, rfl, by omega, by rw [tsz_len]; omega, ?_⟩
  refine for_range (lo := 0) (n := _) (fun i σ H' => ∃ (fa : Addr) (us : List V) (U : List (Nat × Nat)) (y4 y5 y6 y7 y8 y9 : Option V), σ = [some (.ref a), some (.int (n : Nat)), some (.ref fa), some (.int (here Ts n i : Nat)), y4, y5, y6, y7, y8, y9] ∧ Same H H' ∧ H fa = none ∧ H' fa = some (.lst us) ∧
    PrV H' us U ∧ (∀ k m, (k, m) ∈ U ↔ k < i ∧ usesK Ts n k m) ∧ U.length ≤ 2 * i) ⟨p0, [], [], _, _, _, _, _, _, by rw [here_zero]; rfl, sA, hp0, s2 _ _ _ upd_same, .nil, fun k m => ⟨fun z => absurd z (List.not_mem_nil), fun z => absurd z.1 (Nat.not_lt_zero _)⟩, Nat.le_refl _⟩ ?_ ?_
  · rintro i σ H3 hi ⟨fa, us, U, y4, y5, y6, y7, y8, y9, rfl, sm, nfa, hfa, hU, hmem, hUl⟩
    rw [eT] at hi
    obtain ⟨T, eTi⟩ : ∃ T, Ts[i]? = some T := ⟨_, List.getElem?_eq_getElem hi⟩
    have hTT := hT T (mem_of_get eTi)
    have hb := Tab.size_ge hTT.1
    have hb60 := hTT.2
    have hz : (tsz Ts)[i]? = some (.int (T.size : Nat)) := by
      unfold tsz
      rw [List.getElem?_map, eTi]
      rfl
    have hat : atI (tsz Ts) ((0 : Int) + ((i : Nat) : Int)) = some (.int (T.size : Nat)) := by
      rw [Int.zero_add]
      exact atI_nat hz
    have hpos := here_pos (i := i) (n := n) hT.ok hn1
    have ha3 := sm _ _ ha
    generalize hc : here Ts n i = c at hpos ⊢
    generalize hb' : T.size = b at hat hb hb60
    -- the stretches
    refine ⟨_, rfl, _, rfl, _, rfl, a, _, _, _, rfl, rfl, SqL.of ha3, hat, _, _, rfl, rfl, .inl ⟨by omega, by omega⟩, _, _, rfl, _, rfl, _, rfl, a, _, _, _, rfl, rfl, SqL.of ha3, hat, _, _, _, ups b (min c (2 * b)), rfl, ?_, fun D hD => ?_⟩
    · have e : (if (2 : Int) * ((b : Nat) : Int) < ((c : Nat) : Int) then (2 : Int) * ((b : Nat) : Int) else ((c : Nat) : Int)) = ((min c (2 * b) : Nat) : Int) := by split <;> omega
      show RgC 0 (if (2 : Int) * ((b : Nat) : Int) < ((c : Nat) : Int) then (2 : Int) * ((b : Nat) : Int) else ((c : Nat) : Int)) ((b : Nat) : Int) _
      rw [e]
      exact rg_up (by omega) (by omega) (by omega)
    have hups := ups_le (b := b) (m := min c (2 * b)) (by omega)
    have hup1 := ups_pos (b := b) (m := min c (2 * b)) (by omega) (by omega)
    refine lc_it walk_rangeC (fun j H4 => Same H3 H4 ∧ ∃ ws, H4 D = some (.lst ws) ∧ ws.length = j ∧ (0 < j → ws[0]? = some (.int ((min b c : Nat) : Int)))) ⟨same_new hD, [], upd_same, rfl, fun z => absurd z (Nat.lt_irrefl 0)⟩ (fun _ _ _ _ => trivial) (fun j x H4 H5 hj h y => ?_) (fun H4 h => ?_)
    · obtain ⟨s4, ws, hws, hwl, hw0⟩ := h
      obtain ⟨rfl, rfl⟩ := y
      refine ⟨rfl, yes_go ?_⟩
      refine ⟨_, rfl, _, rfl, a, _, _, _, rfl, rfl, SqL.of (s4 _ _ ha3), hat, _, rfl, _, rfl, _, _, rfl, rfl, _, _, rfl, ws, hws, ?_, same_wr s4 hD, _, upd_same, by rw [List.length_append, hwl]; rfl, fun _ => ?_⟩
      · rw [hwl]
        exact lt_line (by omega)
      · by_cases hj0 : j = 0
        · subst hj0
          have e0 : ws = [] := List.eq_nil_of_length_eq_zero hwl
          subst e0
          have e : (if ((c : Nat) : Int) - ((0 : Int) + (((0 : Nat) : Nat) : Int) * ((b : Nat) : Int)) < ((b : Nat) : Int) then ((c : Nat) : Int) - ((0 : Int) + (((0 : Nat) : Nat) : Int) * ((b : Nat) : Int)) else ((b : Nat) : Int)) = ((min b c : Nat) : Int) := by
            have z : (0 : Int) + (((0 : Nat) : Nat) : Int) * ((b : Nat) : Int) = 0 := by simp
            rw [z]
            split <;> omega
          show some (V.int (if ((c : Nat) : Int) - ((0 : Int) + (((0 : Nat) : Nat) : Int) * ((b : Nat) : Int)) < ((b : Nat) : Int) then ((c : Nat) : Int) - ((0 : Int) + (((0 : Nat) : Nat) : Int) * ((b : Nat) : Int)) else ((b : Nat) : Int))) = _
          rw [e]
        · rw [List.getElem?_append_left (by omega)]
          exact hw0 (by omega)
    obtain ⟨s4, ws, hws, hwl, hw0⟩ := h
    have hw0' := hw0 (by omega)
    have htake : ws.take 1 = [.int ((min b c : Nat) : Int)] := by
      rw [List.take_add_one (i := 0), hw0']
      rfl
    -- the last stretch
    refine ⟨_, rfl, .inl ⟨_, rfl, _, rfl, _, rfl, a, _, _, _, rfl, rfl, SqL.of (s4 _ _ ha3), hat, _, _, rfl, rfl, by omega, ?_⟩⟩
    -- sorted(set([..]))
    refine ⟨_, rfl, _, rfl, D, ws, rfl, SqL.of hws, fun g1 hg1 => ?_⟩
    have k1 := fun o => same_new (o := o) hg1
    refine ⟨_, rfl, le_line (by simp), fun g2 hg2 => ⟨g1, g2, _, _, rfl, rfl, (same_new hg2) _ _ upd_same, upd_same, ?_, fun g3 hg3 => ?_⟩⟩
    · show (cutV ws none (some (1 : Int))).length + 1 ≤ _
      rw [show cutV ws none (some (1 : Int)) = ws.take 1 from cut_take ws 1, htake]
      exact le_line (by simp)
    have e2 : cutV ws none (some (1 : Int)) ++ [V.int (((c : Nat) : Int).fmod ((b : Nat) : Int))] = [((min b c : Nat) : Int), ((c % b : Nat) : Int)].map V.int := by
      rw [show cutV ws none (some (1 : Int)) = ws.take 1 from cut_take ws 1, htake, fmod_mod]
      rfl
    have hlist : upd (upd (upd H4 g1 (.lst (cutV ws none (some (1 : Int))))) g2 (.lst [V.int (((c : Nat) : Int).fmod ((b : Nat) : Int))])) g3 (.lst (cutV ws none (some (1 : Int)) ++ [V.int (((c : Nat) : Int).fmod ((b : Nat) : Int))])) g3 = some (.lst ([((min b c : Nat) : Int), ((c % b : Nat) : Int)].map V.int)) := by
      rw [upd_same, e2]
    have k2 := fun o => same_new (o := o) hg2
    have k3 := fun o => same_new (o := o) hg3
    have sB := (k1 (.lst (cutV ws none (some (1 : Int))))).trans ((k2 (.lst [V.int (((c : Nat) : Int).fmod ((b : Nat) : Int))])).trans (k3 (.lst (cutV ws none (some (1 : Int)) ++ [V.int (((c : Nat) : Int).fmod ((b : Nat) : Int))]))))
    refine ⟨g3, rfl, ⟨_, SqL.of hlist⟩, fun D2 hD2 => ?_⟩
    generalize upd (upd (upd H4 g1 (.lst (cutV ws none (some (1 : Int))))) g2 (.lst [V.int (((c : Nat) : Int).fmod ((b : Nat) : Int))])) g3 (.lst (cutV ws none (some (1 : Int)) ++ [V.int (((c : Nat) : Int).fmod ((b : Nat) : Int))])) = H5 at hlist sB hD2 ⊢
    refine lc_it (walk_list (xs := [((min b c : Nat) : Int), ((c % b : Nat) : Int)].map V.int)) (fun j H6 => Same H5 H6 ∧ H6 D2 = some (.lst ((([((min b c : Nat) : Int), ((c % b : Nat) : Int)].take j).filter fun z => decide (1 < z)).map V.int))) ⟨same_new hD2, upd_same⟩ (fun j H6 _ h => SqL.of (h.1 _ _ hlist)) (fun j x H6 H7 hj h y => ?_) (fun H6 h => ?_)
    · obtain ⟨s6, hd2⟩ := h
      obtain ⟨rfl, hx⟩ := y
      obtain ⟨z, ez, rfl⟩ : ∃ z : Int, [((min b c : Nat) : Int), ((c % b : Nat) : Int)][j]? = some z ∧ x = .int z := by
        have hx' : ([((min b c : Nat) : Int), ((c % b : Nat) : Int)].map V.int)[j]? = some x := hx
        rw [List.getElem?_map] at hx'
        cases e : [((min b c : Nat) : Int), ((c % b : Nat) : Int)][j]? with
        | none => rw [e] at hx'; cases hx'
        | some z => rw [e] at hx'; exact ⟨z, rfl, (Option.some.inj hx').symm⟩
      have hj2 : j < 2 := hj
      refine ⟨rfl, ?_⟩
      refine ⟨_, rfl, _, _, rfl, rfl, _, rfl, ?_⟩
      rw [take_succ' ez, List.filter_append, List.map_append]
      by_cases hz1 : (1 : Int) < z
      · rw [decide_eq_true hz1]
        refine iteT ⟨_, rfl, _, hd2, ?_, same_wr s6 hD2, ?_⟩
        · refine lt_line ?_
          have := List.length_filter_le (fun z : Int => decide (1 < z)) ([((min b c : Nat) : Int), ((c % b : Nat) : Int)].take j)
          have h3 := List.length_take_le j [((min b c : Nat) : Int), ((c % b : Nat) : Int)]
          rw [List.length_map]
          omega
        · rw [upd_same]
          have e : List.filter (fun z : Int => decide (1 < z)) [z] = [z] := by simp [hz1]
          rw [e]
          rfl
      · rw [decide_eq_false hz1]
        refine iteF ⟨s6, ?_⟩
        have e : List.filter (fun z : Int => decide (1 < z)) [z] = [] := by simp [hz1]
        rw [hd2, e, List.map_nil, List.append_nil]
    obtain ⟨s6, hd2⟩ := h
    have eF : ([((min b c : Nat) : Int), ((c % b : Nat) : Int)].take ([((min b c : Nat) : Int), ((c % b : Nat) : Int)].map V.int).length) = [((min b c : Nat) : Int), ((c % b : Nat) : Int)] := rfl
    rw [eF] at hd2
    have hFl := List.length_filter_le (fun z : Int => decide (1 < z)) [((min b c : Nat) : Int), ((c % b : Nat) : Int)]
    have hFl2 : [((min b c : Nat) : Int), ((c % b : Nat) : Int)].length = 2 := rfl
    have hFm : ∀ m : Int, m ∈ ([((min b c : Nat) : Int), ((c % b : Nat) : Int)].filter fun z => decide (1 < z)) ↔ (1 < m ∧ (m = ((min b c : Nat) : Int) ∨ m = ((c % b : Nat) : Int))) := fun m => by
      rw [List.mem_filter]
      simp
      exact And.comm
    generalize ([((min b c : Nat) : Int), ((c % b : Nat) : Int)].filter fun z => decide (1 < z)) = F at hd2 hFl hFm
    refine ⟨D2, F, rfl, SqL.of hd2, by omega, fun g4 cc hg4 hcc => ⟨g4, _, cc, rfl, upd_same, by omega, fun ns g5 hpw hns hnl hg5 => ?_⟩⟩
    have k4 := fun o => same_new (o := o) hg4
    have k5 := fun o => same_new (o := o) hg5
    have sC : Same H3 (upd (upd H6 g4 (SetO w g4 (fun j => decide (j ∈ F)) cc)) g5 (.lst (ns.map V.int))) := ((s4.trans sB).trans s6).trans ((k4 _).trans (k5 (.lst (ns.map V.int))))
    have hns5 : upd (upd H6 g4 (SetO w g4 (fun j => decide (j ∈ F)) cc)) g5 (.lst (ns.map V.int)) g5 = some (.lst (ns.map V.int)) := upd_same
    -- found + [(k, one) ..]
    refine ⟨_, rfl, _, rfl, g5, rfl, ⟨_, SqL.of hns5⟩, fun D3 hD3 => ?_⟩
    refine lc_it (walk_list (xs := ns.map V.int)) (fun j H8 => Same H3 H8 ∧ H8 g5 = some (.lst (ns.map V.int)) ∧ ∃ ws, H8 D3 = some (.lst ws) ∧ PrV H8 ws ((ns.take j).map fun z => (i, z.toNat))) ⟨sC.trans (same_new hD3), same_new hD3 _ _ hns5, [], upd_same, .nil⟩ (fun j H8 _ h => SqL.of h.2.1) (fun j x H8 H9 hj h y => ?_) (fun H8 h => ?_)
    · obtain ⟨s8, hg8, vs, hvs, hP⟩ := h
      obtain ⟨rfl, hx⟩ := y
      obtain ⟨z, ez, rfl⟩ : ∃ z : Int, ns[j]? = some z ∧ x = .int z := by
        have hx' : (ns.map V.int)[j]? = some x := hx
        rw [List.getElem?_map] at hx'
        cases e : ns[j]? with
        | none => rw [e] at hx'; cases hx'
        | some z => rw [e] at hx'; exact ⟨z, rfl, (Option.some.inj hx').symm⟩
      have hz1 := ((hFm z).mp (of_decide_eq_true ((hns z).mp (List.mem_of_getElem? ez)))).1
      refine ⟨rfl, yes_go ?_⟩
      refine ⟨_, rfl, _, rfl, le_line (by simp), fun t ht => ?_⟩
      have k8 := fun o => same_new (o := o) ht
      refine ⟨vs, k8 _ _ _ hvs, ?_, same_wr (s8.trans (k8 _)) (Same.free sC hD3), ?_, vs ++ [.ref t], upd_same, ?_⟩
      · rw [hP.len, List.length_map, List.length_take]
        exact lt_line (by omega)
      · rw [upd_ne (ne_of_none hns5 hD3)]
        exact k8 _ _ _ hg8
      · rw [take_succ' ez, List.map_append]
        have kW := (NL.wr (us := vs) (o := .lst (vs ++ [.ref t])) (k8 (.tup [.int ((0 : Int) + ((i : Nat) : Int)), .int z]) _ _ hvs)).tupK
        refine ((hP.keep (Same.tupK (k8 _))).keep kW).append (.cons ⟨t, rfl, ?_⟩ .nil)
        have e : (HO.tup [.int ((0 : Int) + ((i : Nat) : Int)), .int z]) = .tup [.int ((i : Nat) : Int), .int ((z.toNat : Nat) : Int)] := by
          rw [Int.zero_add, Int.toNat_of_nonneg (by omega)]
        show _ = some (HO.tup [.int ((i : Nat) : Int), .int ((z.toNat : Nat) : Int)])
        rw [← e]
        exact kW _ _ upd_same
    obtain ⟨s8, hg8, vs, hvs, hP⟩ := h
    rw [List.length_map, List.take_length] at hP
    have sD := s8
    have hPl := hP.len
    rw [List.length_map] at hPl
    have hUl2 := hU.len
    refine ⟨_, _, _, _, rfl, rfl, sD _ _ hfa, hvs, le_line (by omega), fun p hp => ?_⟩
    have k9 := fun o => same_new (o := o) hp
    have sE := sD.trans (k9 (.lst (us ++ vs)))
    refine ⟨_, rfl, _, rfl, _, rfl, a, _, _, _, rfl, rfl, SqL.of (sE _ _ ha3), hat, _, _, rfl, rfl, _, _, rfl, rfl, _, rfl, _, rfl, a, _, _, _, rfl, rfl, SqL.of (sE _ _ ha3), hat, _, _, rfl, rfl, ⟨by omega, by omega⟩, ?_⟩
    refine ⟨p, us ++ vs, U ++ ns.map (fun z => (i, z.toNat)), some (.int ((0 : Int) + ((i : Nat) : Int))), some (.ref D), some (.int (((c : Nat) : Int).fmod ((b : Nat) : Int))), some (.ref g5), y8, y9, ?_, sm.trans sE, Same.free (sm.trans sD) hp, upd_same, (hU.same sE).append (hP.same (k9 _)), fun k m => ?_, ?_⟩
    · rw [here_succ eTi, hc, hb']
      have e : (((c : Nat) : Int) + ((b : Nat) : Int) - 1).fdiv ((b : Nat) : Int) = ((ups b c : Nat) : Int) := by
        rw [show ((c : Nat) : Int) + ((b : Nat) : Int) - 1 = ((c + b - 1 : Nat) : Int) by omega, fdiv_div]
        rfl
      show [_, _, _, some (V.int ((((c : Nat) : Int) + ((b : Nat) : Int) - 1).fdiv ((b : Nat) : Int))), _, _, _, _, _, _] = _
      rw [e]
    · rw [List.mem_append, hmem, List.mem_map]
      constructor
      · rintro (z | ⟨z, hz2, ez⟩)
        · exact ⟨by omega, z.2⟩
        · have hz3 := (hFm z).mp (of_decide_eq_true ((hns z).mp hz2))
          cases ez
          refine ⟨by omega, T, eTi, by omega, ?_⟩
          rw [hc, hb', mem_cuts (by omega) (by omega) (by omega)]
          rcases hz3.2 with e | e
          · exact .inl (by omega)
          · exact .inr (by omega)
      · rintro ⟨h1, h2⟩
        by_cases hki : k < i
        · exact .inl ⟨hki, h2⟩
        · have eki : k = i := by omega
          subst eki
          obtain ⟨T', eT', hm2, hm3⟩ := h2
          rw [eTi] at eT'
          cases eT'
          rw [hc, hb', mem_cuts (by omega) (by omega) hm2] at hm3
          refine .inr ⟨(m : Int), (hns _).mpr (decide_eq_true ((hFm _).mpr ⟨by omega, ?_⟩)), by rw [Int.toNat_natCast]⟩
          rcases hm3 with e | e
          · exact .inl (by omega)
          · exact .inr (by omega)
    · rw [List.length_append, List.length_map]
      omega
  · rintro σ H' ⟨fa, us, U, y4, y5, y6, y7, y8, y9, rfl, sm, nfa, hfa, hU, hmem, hUl⟩
    rw [eT] at hmem hUl
    refine ⟨_, rfl, q fa us U H' sm nfa hfa hU (fun k m => ?_) (by omega)⟩
    rw [hmem]
    constructor
    · exact fun z => z.2
    · intro z
      obtain ⟨T, eT', _⟩ := z
      exact ⟨(List.getElem?_eq_some_iff.mp eT').1, ⟨T, eT', ‹_›⟩⟩
end
end Lp
set_option Elab.async false
set_option linter.all false
set_option maxRecDepth 100000
set_option maxHeartbeats 4000000
/-! _law_sizes, _law_some_plan. -/
namespace Lp
open PySem PySem.Spec PyProof.Rows L2 Sh
def natV (zs : List Nat) : List V := zs.map fun z => V.int (z : Nat)
theorem nat_at {zs : List Nat} {r : Nat} {v : V} (h : (natV zs)[r]? = some v) : ∃ z, zs[r]? = some z ∧ z ∈ zs ∧ v = .int (z : Nat) := by
  unfold natV at h
  rw [List.getElem?_map] at h
  cases e : zs[r]? with
  | none => rw [e] at h; cases h
  | some z =>
    rw [e] at h
    exact ⟨z, rfl, List.mem_of_getElem? e, (Option.some.inj h).symm⟩
theorem natV_len (zs : List Nat) : (natV zs).length = zs.length := List.length_map _
/-- tables at values -/
def TbVs (H : Hp) (Ts : List Tab) (us : List V) : Prop := Paired (fun (v : V) (T : Tab) => TabV H T v) us Ts
theorem TbVs.keep {H H' : Hp} {Ts : List Tab} {us : List V} (h : TbVs H Ts us) (k : TupK H H') : TbVs H' Ts us := by
  induction h with
  | nil => exact .nil
  | cons r _ ih => exact .cons (r.keep k) ih
theorem TbVs.append {H : Hp} : ∀ {Ts Us : List Tab} {us ws : List V}, TbVs H Ts us → TbVs H Us ws → TbVs H (Ts ++ Us) (us ++ ws)
  | _, _, _, _, .nil, s => s
  | _, _, _, _, .cons r t, s => .cons r (TbVs.append t s)
theorem TbVs.get {H : Hp} : ∀ {Ts : List Tab} {us : List V} {i : Nat} {T : Tab}, TbVs H Ts us → Ts[i]? = some T → ∃ v, us[i]? = some v ∧ TabV H T v
  | _, _, _, _, .nil, e => by simp at e
  | _, _, 0, _, .cons r _, e => by
    simp at e
    subst e
    exact ⟨_, rfl, r⟩
  | _, _, i + 1, _, .cons _ t, e => by
    obtain ⟨v, h1, h2⟩ := TbVs.get (i := i) t (by simpa using e)
    exact ⟨v, by simpa using h1, h2⟩
section
variable {P : Program} {w : World} {K : PySem.W.Frag} {mg : Str → Option Value} {base : Heap}
theorem scLSizes : FnScope ["_law_source_here", "_law_most", "_law_lap"] ["_law_source_here", "_law_most"] (defScope sLSizes) := ⟨rfl, rfl, rfl, by decide +kernel, rfl, by decide +kernel, by decide +kernel⟩
def spLSizes : Sp := fun vs H Q _ => ∃ (d c : Addr), vs = [.ref d, .int 7] ∧ Src H d c ∧ ∀ p bs H', SmX d c H H' → Src H' d c → H p = none → H' p = some (.lst (natV bs)) → bs.length ≤ 3 → (∀ b ∈ bs, 2 ≤ b ∧ b ≤ 7) → Q (.ref p) H'
theorem ok_lsizes {f fP fO : Addr} {fd fdP fdO : FuncData} (F : Fun K "_law_sizes" "_law_sizes" sLSizes f fd) (DP : Df K mg "_law_pick" sLPick ["_law_source_here", "_law_many"] fP fdP) (DO : Df K mg "_law_of" sLOf ["_law_source_here", "_law_some"] fO fdO)
    (mint : mg "int" = none) (mmax : mg "max" = none) (ml : mg "len" = none) (mr : mg "range" = none) : FnOk P w K mg base CX0 3 f fd ["_law_source_here", "_law_most"] spLSizes := by
  have GP : FnOk P w K mg base CX0 1 fP fdP ["_law_source_here", "_law_many"] spLPick := ok_lpick DP.fn mint mmax ml
  have GO : FnOk P w K mg base CX0 2 fO fdO ["_law_source_here", "_law_some"] spLOf := ok_lof DO.fn DP mint mmax ml
  refine F.ok scLSizes (fun vs H Q E h => ?_) (fun cdv A outer s H vs Q E hr h => ?_)
  · obtain ⟨_, _, rfl, _⟩ := h
    rfl
  obtain ⟨d, c, rfl, hsrc, q⟩ := h
  have hr1 : Room 1 (A.deeper (envOfC "_law_sizes" (defScope sLSizes) s.heap.objs.size f cdv)) := hr.mono (by decide)
  refine ⟨_, pss_one (ps_ret (pe_lc (own := [("_law_lap", 2)]) (g := gName 2) (tt := tYes) rfl scLSizes.nd (pi_range1 rfl mr (pa_cons (pe_df DO GO hr (by rfl) (pa_cons (pv 0) (pa_cons (pe_lst (pa_cons pe_int (pa_cons pe_int (pa_cons pe_int (pa_cons pe_int (pa_cons pe_int (pa_cons pe_int pa_nil))))))) pa_nil))) pa_nil))
    (blkOk_by (own := [("_law_lap", 2)]) (N := ["_law_source_here", "_law_most", "_law_lap"]) (sc := defScope sLSizes) (by decide +kernel)) (fun _ _ _ _ _ => pg_name (i := 2) scLSizes.nd rfl (.inl rfl)) (fun _ _ _ _ _ => pts_nil)
    (fun _ _ _ _ _ => pe_op op_add pe_int (pe_df DP GP hr1 (by rfl) (pa_cons (pv 0) (pa_cons (pe_op op_sub (pv 1) pe_int) pa_nil)))))), ?_⟩
  refine ⟨_, rfl, le_line (by simp), fun l hl => ⟨d, c, l, _, rfl, hsrc.same (same_new hl), (hsrc.off hl).1, (hsrc.off hl).2, upd_same, by simp, by simp, fun r v H1 hv sm1 hs1 => ?_⟩⟩
  obtain ⟨z, _, hz, rfl⟩ := nat_at (zs := [0, 1, 1, 2, 2, 3]) hv
  have hz3 : z ≤ 3 := by
    simp at hz
    omega
  have sA : SmX d c H H1 := (SmX.same (same_new hl)).trans sm1
  refine ⟨_, rfl, by omega, by omega, fun D hD => ?_⟩
  have oD := hs1.off hD
  rw [Int.toNat_natCast]
  refine lc_it walk_range (fun i H' => SmX d c H H' ∧ Src H' d c ∧ ∃ bs, H' D = some (.lst (natV bs)) ∧ bs.length = i ∧ ∀ b ∈ bs, 2 ≤ b ∧ b ≤ 7) ⟨sA.trans (.same (same_new hD)), hs1.same (same_new hD), [], upd_same, rfl, fun b hb => absurd hb (List.not_mem_nil)⟩ (fun _ _ _ _ => trivial) (fun i x H2 H3 hi h y => ?_) (fun H' h => ?_)
  · obtain ⟨sm, hs, bs, hbs, hbl, hb⟩ := h
    obtain ⟨rfl, rfl⟩ := y
    refine ⟨rfl, yes_go ?_⟩
    refine ⟨_, rfl, _, rfl, _, _, rfl, rfl, d, c, 6, rfl, hs, by omega, by omega, fun r' H4 hr6 sm4 hs4 => ⟨_, _, rfl, rfl, _, sm4 _ _ hbs oD.1 oD.2, ?_, ?_, hs4.wr oD.1 oD.2, bs ++ [2 + r'], ?_, by rw [List.length_append, hbl]; rfl, fun b hb' => ?_⟩⟩
    · rw [natV_len, hbl]
      exact lt_line (by omega)
    · exact (sm.trans sm4).wr (sA.free hs1 hD)
    · rw [upd_same]
      unfold natV
      rw [List.map_append]
      show some (HO.lst (_ ++ [V.int ((2 : Int) + ((r' : Nat) : Int))])) = some (HO.lst (_ ++ [V.int ((2 + r' : Nat) : Int)]))
      rw [show (2 : Int) + ((r' : Nat) : Int) = ((2 + r' : Nat) : Int) by omega]
    · rcases List.mem_append.mp hb' with z | z
      · exact hb b z
      · rw [List.mem_singleton.mp z]
        omega
  · obtain ⟨sm, hs, bs, hbs, hbl, hb⟩ := h
    exact q D bs H' sm hs (sA.free hs1 hD) hbs (by omega) hb
/-! ### _law_some_plan -/
theorem scLPlan : FnScope ["_law_source_here", "_law_sizes_here", "_law_end", "_law_size_here"] ["_law_source_here", "_law_sizes_here", "_law_end"] (defScope sLPlan) := ⟨rfl, rfl, rfl, by decide +kernel, rfl, by decide +kernel, by decide +kernel⟩
def spLPlan : Sp := fun vs H Q _ => ∃ (d c s : Addr) (left : Bool) (bs : List Nat), vs = [.ref d, .ref s, .str (sideS left)] ∧ Src H d c ∧ s ≠ d ∧ s ≠ c ∧ H s = some (.lst (natV bs)) ∧ bs.length ≤ 3 ∧ (∀ b ∈ bs, 2 ≤ b ∧ b ≤ 7) ∧
  ∀ wa Ts H', SmX d c H H' → Src H' d c → H wa = none → Wd H' wa left Ts → (∀ T ∈ Ts, Tab.Ok T) → Ts.map Tab.size = bs → Q (.ref wa) H'
theorem ok_lplan {f fA : Addr} {fd fdA : FuncData} (F : Fun K "_law_some_plan" "_law_some_plan" sLPlan f fd) (DA : Df K mg "_law_any_table" sLAny ["_law_source_here", "_law_size_here"] fA fdA) (GA : FnOk P w K mg base CX0 17 fA fdA ["_law_source_here", "_law_size_here"] spLAny)
    (mt : mg "tuple" = none) : FnOk P w K mg base CX0 18 f fd ["_law_source_here", "_law_sizes_here", "_law_end"] spLPlan := by
  refine F.ok scLPlan (fun vs H Q E h => ?_) (fun cdv A outer s H vs Q E hr h => ?_)
  · obtain ⟨_, _, _, _, _, rfl, _⟩ := h
    rfl
  obtain ⟨d, c, a, left, bs, rfl, hsrc, n1, n2, ha, hbl, hb, q⟩ := h
  refine ⟨_, pss_one (ps_ret (pe_disp (pps_cons pe_str (pe_callTy call_tuple_of (by rfl) mt PyProof.Rows.boot_tuple (pa_cons (pe_lc (own := [("_law_size_here", 3)]) (g := gName 3) (tt := tYes) rfl scLPlan.nd (pi_list (pv 1))
      (blkOk_by (own := [("_law_size_here", 3)]) (N := ["_law_source_here", "_law_sizes_here", "_law_end", "_law_size_here"]) (sc := defScope sLPlan) (by decide +kernel)) (fun _ _ _ _ _ => pg_name (i := 3) scLPlan.nd rfl (.inl rfl)) (fun _ _ _ _ _ => pts_nil)
      (fun _ _ _ _ _ => pe_df DA GA hr (by rfl) (pa_cons (pv 0) (pa_cons (pv 3) pa_nil)))) pa_nil)) (pps_cons pe_str (pv 2) pps_nil)) (by rfl) (by rfl) (fun z => by cases z) (by decide))), ?_⟩
  refine fun p hp => ?_
  have k0 := fun o => same_new (o := o) hp
  have hs0 := hsrc.same (k0 (.dK []))
  have op := hsrc.off hp
  refine ⟨_, rfl, a, rfl, ⟨_, SqL.of (k0 _ _ _ ha)⟩, fun D hD => ?_⟩
  have oD := hs0.off hD
  have hDH : H D = none := Same.free (k0 _) hD
  have npD : p ≠ D := fun z => by
    subst z
    rw [upd_same] at hD
    cases hD
  refine lc_it (walk_list (xs := natV bs)) (fun i H' => SmX d c H H' ∧ Src H' d c ∧ H' p = some (.dK []) ∧ ∃ us Ts, H' D = some (.lst us) ∧ TbVs H' Ts us ∧ (∀ T ∈ Ts, Tab.Ok T) ∧ Ts.map Tab.size = bs.take i)
    ⟨(SmX.same (k0 _)).trans (.same (same_new hD)), hs0.same (same_new hD), same_new hD _ _ upd_same, [], [], upd_same, .nil, fun T hT => absurd hT (List.not_mem_nil), by rw [List.take_zero]; rfl⟩ (fun i H' _ h => SqL.of (h.1 _ _ ha n1 n2)) (fun i x H2 H3 hi h y => ?_) (fun H' h => ?_)
  · obtain ⟨sm, hs, hpp, us, Ts, hus, hTs, hok, hmap⟩ := h
    obtain ⟨rfl, hx⟩ := y
    obtain ⟨b, hbi, hbm, rfl⟩ := nat_at hx
    have hbb := hb b hbm
    refine ⟨rfl, yes_go ?_⟩
    refine ⟨_, rfl, _, rfl, d, c, b, rfl, hs, hbb.1, hbb.2, fun T v H4 sm4 hs4 hok4 hz4 hv4 => ?_⟩
    have hlen := Paired.length hTs
    have hml : Ts.length = i := by
      have e := congrArg List.length hmap
      rw [List.length_map, List.length_take] at e
      rw [natV_len] at hi
      omega
    refine ⟨us, sm4 _ _ hus oD.1 oD.2, ?_, (sm.trans sm4).wr hDH, hs4.wr oD.1 oD.2, ?_, us ++ [v], Ts ++ [T], upd_same, ?_, fun U hU => ?_, ?_⟩
    · refine lt_line ?_
      rw [natV_len] at hi
      omega
    · rw [upd_ne npD]
      exact sm4 _ _ hpp op.1 op.2
    · have kW := (NL.wr (us := us) (o := .lst (us ++ [v])) (sm4 _ _ hus oD.1 oD.2)).tupK
      exact ((hTs.keep (sm4.tupK hs)).keep kW).append (.cons (hv4.keep kW) .nil)
    · rcases List.mem_append.mp hU with z | z
      · exact hok U z
      · rw [List.mem_singleton.mp z]
        exact hok4
    · rw [List.map_append, hmap, take_succ' hbi]
      show _ ++ [T.size] = _
      rw [hz4]
  · obtain ⟨sm, hs, hpp, us, Ts, hus, hTs, hok, hmap⟩ := h
    rw [natV_len, List.take_length] at hmap
    refine ⟨D, us, rfl, .inl ⟨SqL.of hus, fun t ht => ?_⟩⟩
    have k1 := fun o => same_new (o := o) ht
    refine ⟨_, rfl, k1 _ _ _ hpp, [(kTables, .ref t), (kEnd, .str (sideS left))], rfl, by show 2 ≤ 15; decide, ?_⟩
    have ntp : t ≠ p := (ne_of_none hpp ht).symm
    have kT : TupK (upd H' t (.tup us)) (upd (upd H' t (.tup us)) p (.dK (mergeK [] [(kTables, .ref t), (kEnd, .str (sideS left))]))) := fun b xs e => by
      rw [upd_ne (ne_of e (k1 _ _ _ hpp) (by intro z; cases z))]
      exact e
    refine q p Ts _ ((sm.trans (.same (k1 _))).wr hp) ((hs.same (k1 _)).wr op.1 op.2) hp ⟨t, us, by rw [upd_same]; rfl, kT _ _ upd_same, Paired.length hTs, fun k T e => ?_⟩ hok hmap
    obtain ⟨v, e1, e2⟩ := hTs.get e
    exact ⟨v, e1, (e2.keep (Same.tupK (k1 _))).keep kT⟩
end
end Lp
set_option Elab.async false
set_option linter.all false
set_option maxRecDepth 100000
set_option maxHeartbeats 4000000
/-! The law's call at its caller: as the library's, for one caller only, whose guards are known. -/
namespace Lp
open PySem PySem.Spec PyProof.Rows L2 Sh
/-- a def's run at one place -/
theorem fn_at {P : Program} {w : World} {K : PySem.W.Frag} {mg : Str → Option Value} {base : Heap} {k : Nat} {x qual : Str} {st : Stmt} {f : Addr} {fd : FuncData} {N ps : List Str} {A : Around} {outer : List Env} {s : Shared} {H : Hp} {args : Args} {us : List Value} {vs : List V} {Q : VK} {E : XK}
    (F : Fun K x qual st f fd) (S : FnScope N ps (defScope st)) (hl : vs.length = ps.length) (hr : Room (k + 1) A) (e0 : Env0 P w K mg base A outer s H) (hb : BindsTo s fd args (ps.zip us)) (r : Vals vs us)
    (hbody : ∀ cdv, Room k (A.deeper (envOfC qual (defScope st) s.heap.objs.size f cdv)) → ∃ t, PSs (cxOf CX0 P w K mg base N qual (defScope st) f cdv A outer s H E).nox (defBody st) t ∧ t { nx := fun _ H' => Q .non H', rt := Q } (L2.start N vs) H) :
    codeAny (model P w) A (Code.call (.ref f) args) (CR CX0 outer P w H s Q E) s := by
  obtain ⟨oc, od, kV, doc, pm, an, cdv, ct, osl, rfl, lk, hcd⟩ := F.ex
  have KX := PySem.W.Frag.In.keeps e0.mod.kin fun b o e => (e0.bs b o e).1
  have lim := Heap.NoLimit.keeps e0.mod.nolimit fun b o e => (e0.bs b o e).1
  have hkind : ∀ y : Str × Value, y ∈ ps.zip us → List.lookup y.1 (defScope st).names = some NameKind.local ∨ List.lookup y.1 (defScope st).names = some NameKind.cell ∧ (List.lookup y.1 (cellsFrom (s.heap.objs.size + 1) (defScope st).names [])).isSome = true := by
    rintro ⟨n, v⟩ hy
    rcases S.par n (List.of_mem_zip hy).1 with q | q
    · exact .inl q
    · exact .inr ⟨q, PySem.W.cellsFrom_some (defScope st).names (s.heap.objs.size + 1) [] (.inl q)⟩
  obtain ⟨t, ht0, hq⟩ := hbody cdv (Room.deeper hr (envOfC qual (defScope st) s.heap.objs.size f cdv))
  have ht := PSs.nox ht0
  refine codeAny_call_function (Room.depth hr) (KX f _ lk) rfl S.co S.gen rfl (PySem.W.codeRec_of KX hcd) (hb (model P w) A.in1 _ _ ?_)
  refine wpAny_newFunctionEnv_cells S.kind hkind fun env he s1 x => ?_
  subst he
  refine ⟨Heap.NoLimit.keeps lim x.toInCall.keep, codeAny_func ?_⟩
  have I := inv_start (CX := CX0) (qual := qual) (cd := cdv) (f := f) (E := E) S hr.hd e0 hl r x
  refine wpAny_mono (ht.run [] s1 (L2.start N vs) H { nx := fun _ H' => Q .non H', rt := Q } I hq) (fun fl s' hs => ?_) fun e s' hs => hs
  cases fl with
  | ret u =>
    obtain ⟨v, σ', H', J, rv, q⟩ := hs
    exact ⟨v, H', J.os, J.bare, J.base, J.hok, rv, q⟩
  | next =>
    obtain ⟨σ', H', J, q⟩ := hs
    exact ⟨.non, H', J.os, J.bare, J.base, J.hok, rfl, q⟩
  | brk =>
    obtain ⟨_, _, _, q⟩ := hs
    exact q.elim
  | cont =>
    obtain ⟨_, _, _, q⟩ := hs
    exact q.elim
/-- the law's call from its caller -/
theorem law_call2 {P : Program} {w : World} {K : PySem.W.Frag} {mg mb : Str → Option Value} {fa a : Addr} {s₁ : Shared} {vs : List Value} {ns : List Int}
    (KX : K.In s₁.heap) (hns : s₁.heap.Ns mainGlobals mg) (hb : s₁.heap.Ns builtinsNs mb) (hbb : ∀ x : Str, x ≠ Str.ofString "__name__" → mb x = bootBuiltins x) (hlim : s₁.heap.NoLimit) (hg : s₁.gens = #[])
    (ha : s₁.heap.get? a = some { cls := .type "list", data := .seq vs.toArray }) (hi : IntsAre vs ns) (hl : ns.length ≤ sizeLine)
    (F : ∀ base : Heap, K.In base → base.Ns mainGlobals mg → ∀ H : Hp, SqL K H a (ns.map V.int) → Env0 P w K mg base callerA [] s₁ H →
      codeAny (model P w) callerA (Code.call (.ref fa) { pos := [.ref a] }) (CR CX0 [] P w H s₁ (fun v _ => v = .bl true) (fun _ _ _ => False)) s₁) :
    codeAny (model P w) callerA (Code.call (.ref fa) { pos := [.ref a] }) (fun r s' => r = .ok (.ret (.bool true)) ∧ OldK s₁.heap s'.heap ∧ s'.os = s₁.os ∧ AllBare s'.gens) s₁ := by
  have rv := vals_ints hi
  have core : ∀ H : Hp, Only H → SqL K H a (ns.map V.int) → HOk P w H s₁.heap → (∀ b, H b ≠ none → b = a) → (H a ≠ none → List.lookup a K = none) →
      codeAny (model P w) callerA (Code.call (.ref fa) { pos := [.ref a] }) (fun r s' => r = .ok (.ret (.bool true)) ∧ OldK s₁.heap s'.heap ∧ s'.os = s₁.os ∧ AllBare s'.gens) s₁ := by
    intro H hO hS hok hA hK
    have noA : ∀ {b : Addr} {o : Obj} {es ep}, s₁.heap.get? b = some o → o.data = Data.dict es ep → H b = none := by
      intro b o es ep e d
      cases q : H b with
      | none => rfl
      | some u =>
        have e' := hA b (by rw [q]; exact fun z => by cases z)
        subst e'
        rw [ha] at e
        cases e
        cases d
    have nsK : ∀ {b : Addr} {m : Str → Option Value}, s₁.heap.Ns b m → (hidT s₁.heap H).Ns b m := by
      rintro b m ⟨o, es, ep, e, d, r⟩
      exact ⟨o, es, ep, hidT_get e (noA e d), d, r⟩
    have hKb : K.In (hidT s₁.heap H) := fun b o e => hidT_get (KX b o e) (by
      cases q : H b with
      | none => rfl
      | some u =>
        have e' := hA b (by rw [q]; exact fun z => by cases z)
        subst e'
        have := hK (by rw [q]; exact fun z => by cases z)
        rw [e] at this
        cases this)
    obtain ⟨mc, h1, h2⟩ := hlim
    have hM : L2.Mod K mg (hidT s₁.heap H) := ⟨hKb, nsK hns, ⟨mb, nsK hb, hbb⟩, ⟨mc, nsK h1, h2⟩⟩
    have e0 : Env0 P w K mg (hidT s₁.heap H) callerA [] s₁ H := { frames := rfl, mod := hM, bs := fun b o e => of_hidT e, bsz := Nat.le_of_eq (hidT_size s₁.heap H), funs := trivial, frf := fun b hb => absurd hb (List.not_mem_nil), hok := hok, bare := AllBare.of_eq hg }
    refine codeAny_mono (F (hidT s₁.heap H) hKb (nsK hns) H hS e0) fun r s' h => ?_
    match r, h with
    | .ok (.ret u), h =>
      obtain ⟨v, H', os, bare, un, hok', r', q⟩ := h
      subst q
      obtain rfl : u = Value.bool true := r'
      refine ⟨rfl, OldK.of_keep fun b o e => ?_, os, bare⟩
      cases q : H b with
      | none => exact un.keep b o e q (List.not_mem_nil) (List.not_mem_nil)
      | some u =>
        rcases hO b with z | ⟨ob, xs, z⟩
        · rw [z] at q
          cases q
        · have h1 := un.frzs b ob _ z
          have h2 := hok b _ z
          have h3 := hok' b _ h1
          have e4 : s₁.heap.get? b = some ob := h2.1
          rw [e4] at e
          cases e
          exact h3.1
    | .ok .next, h => exact h.elim
    | .ok .brk, h => exact h.elim
    | .ok .cont, h => exact h.elim
    | .error e, h => exact h.elim
  cases hk : List.lookup a K with
  | none =>
    refine core (fun b => if b = a then some (.frz { cls := .type "list", data := .seq vs.toArray } (.lst (ns.map V.int))) else none) (fun b => ?_) (.inl (.inr ⟨_, if_pos rfl⟩)) (fun b u z => ?_) (fun b z => ?_) (fun _ => hk)
    · by_cases e : b = a
      · exact .inr ⟨_, _, if_pos e⟩
      · exact .inl (if_neg e)
    · by_cases e : b = a
      · subst e
        have z' := (if_pos rfl).symm.trans z
        cases z'
        exact ⟨ha, by rw [List.length_map]; exact hl, vs, 0, rv, ha⟩
      · have z' := (if_neg e).symm.trans z
        cases z'
    · by_cases e : b = a
      · exact e
      · exact absurd (if_neg e) z
  | some o =>
    have e := KX a o hk
    rw [ha] at e
    cases e
    refine core (fun _ => none) (fun b => .inl rfl) (.inr ⟨_, vs.toArray, 0, hk, rfl, rfl, rfl, ?_, ?_⟩) (fun b u z => by cases z) (fun b z => absurd rfl z) (fun z => absurd rfl z)
    · have := IntsAre.length hi
      show vs.toArray.size ≤ sizeLine
      rw [List.size_toArray]
      omega
    · exact rv
end Lp
set_option Elab.async false
set_option linter.all false
set_option maxRecDepth 100000
set_option maxHeartbeats 8000000
/-! law. -/
namespace Lp
open PySem PySem.Spec PyProof.Rows L2 Sh
/-- the module's defs and the names that it leaves to the builtins -/
structure Tx (K : PySem.W.Frag) (mg : Str → Option Value) where
  fWrong : Addr
  dWrong : FuncData
  DWrong : Df K mg "wrong_shape" sWrong ["value"] fWrong dWrong
  fIsShape : Addr
  dIsShape : FuncData
  DIsShape : Df K mg "is_shape" sIsShape ["value"] fIsShape dIsShape
  fSizeOf : Addr
  dSizeOf : FuncData
  DSizeOf : Df K mg "size_of" sSizeOf ["shape"] fSizeOf dSizeOf
  fComb : Addr
  dComb : FuncData
  DComb : Df K mg "comb" sComb ["n", "side"] fComb dComb
  fStr : Addr
  dStr : FuncData
  DStr : Df K mg "stretches" sStretches ["m", "b"] fStr dStr
  fTaken : Addr
  dTaken : FuncData
  DTaken : Df K mg "taken_off" sTakenOff ["shape", "sizes"] fTaken dTaken
  fLevel : Addr
  dLevel : FuncData
  DLevel : Df K mg "read_level" sReadLevel ["known", "size", "shape"] fLevel dLevel
  fPair : Addr
  dPair : FuncData
  DPair : Df K mg "read_pair" sReadPair ["sizes", "end", "known", "shape"] fPair dPair
  fNoth : Addr
  dNoth : FuncData
  DNoth : Df K mg "nothing_known" sNothing ["sizes"] fNoth dNoth
  fFits : Addr
  dFits : FuncData
  DFits : Df K mg "fits_shape" sFits ["sizes", "end", "n", "shape"] fFits dFits
  fTold : Addr
  dTold : FuncData
  DTold : Df K mg "entries_told" sTold ["sizes", "end", "pairs"] fTold dTold
  fLSource : Addr
  dLSource : FuncData
  DLSource : Df K mg "_law_source" sLSource ["_law_script"] fLSource dLSource
  fLPick : Addr
  dLPick : FuncData
  DLPick : Df K mg "_law_pick" sLPick ["_law_source_here", "_law_many"] fLPick dLPick
  fLOf : Addr
  dLOf : FuncData
  DLOf : Df K mg "_law_of" sLOf ["_law_source_here", "_law_some"] fLOf dLOf
  fLComb : Addr
  dLComb : FuncData
  DLComb : Df K mg "_law_comb" sLComb ["_law_n", "_law_side"] fLComb dLComb
  fLHalves : Addr
  dLHalves : FuncData
  DLHalves : Df K mg "_law_halves" sLHalves ["_law_n"] fLHalves dLHalves
  fLShape : Addr
  dLShape : FuncData
  DLShape : Df K mg "_law_shape" sLShape ["_law_source_here", "_law_n"] fLShape dLShape
  fLSize : Addr
  dLSize : FuncData
  DLSize : Df K mg "_law_size" sLSize ["_law_form"] fLSize dLSize
  fLAny : Addr
  dLAny : FuncData
  DLAny : Df K mg "_law_any_table" sLAny ["_law_source_here", "_law_size_here"] fLAny dLAny
  fLEntry : Addr
  dLEntry : FuncData
  DLEntry : Df K mg "_law_entry" sLEntry ["_law_table", "_law_m"] fLEntry dLEntry
  fLFilled : Addr
  dLFilled : FuncData
  DLFilled : Df K mg "_law_filled" sLFilled ["_law_form", "_law_lumps"] fLFilled dLFilled
  fLPressed : Addr
  dLPressed : FuncData
  DLPressed : Df K mg "_law_pressed" sLPressed ["_law_table", "_law_row"] fLPressed dLPressed
  fLStage : Addr
  dLStage : FuncData
  DLStage : Df K mg "_law_stage" sLStage ["_law_world", "_law_k"] fLStage dLStage
  fLTold : Addr
  dLTold : FuncData
  DLTold : Df K mg "_law_told" sLTold ["_law_world", "_law_n"] fLTold dLTold
  fLUsed : Addr
  dLUsed : FuncData
  DLUsed : Df K mg "_law_used" sLUsed ["_law_sizes_here", "_law_n"] fLUsed dLUsed
  fLSizes : Addr
  dLSizes : FuncData
  DLSizes : Df K mg "_law_sizes" sLSizes ["_law_source_here", "_law_most"] fLSizes dLSizes
  fLPlan : Addr
  dLPlan : FuncData
  DLPlan : Df K mg "_law_some_plan" sLPlan ["_law_source_here", "_law_sizes_here", "_law_end"] fLPlan dLPlan
  m_isinstance : mg "isinstance" = none
  m_tuple : mg "tuple" = none
  m_len : mg "len" = none
  m_enumerate : mg "enumerate" = none
  m_range : mg "range" = none
  m_min : mg "min" = none
  m_max : mg "max" = none
  m_dict : mg "dict" = none
  m_zip : mg "zip" = none
  m_int : mg "int" = none
  m_abs : mg "abs" = none
  m_set : mg "set" = none
  m_sorted : mg "sorted" = none
  m_repr : mg "repr" = none
namespace Tx
variable {P : Program} {w : World} {K : PySem.W.Frag} {mg : Str → Option Value} {base : Heap}
theorem gWrong (T : Tx K mg) : FnOk P w K mg base CX0 61 T.fWrong T.dWrong ["value"] (spWrong 60) := ok_wrong T.DWrong T.m_isinstance T.m_tuple T.m_len T.m_enumerate 60
theorem gIsShape (T : Tx K mg) : FnOk P w K mg base CX0 62 T.fIsShape T.dIsShape ["value"] spIsShape := ok_is_shape T.DIsShape.fn T.DWrong T.gWrong
theorem gStr (T : Tx K mg) : FnOk P w K mg base CX0 1 T.fStr T.dStr ["m", "b"] spStretches := ok_stretches T.DStr.fn T.m_range T.m_min
theorem gTaken (T : Tx K mg) : FnOk P w K mg base CX0 61 T.fTaken T.dTaken ["shape", "sizes"] (spTaken 60) := ok_taken T.DTaken T.DSizeOf T.m_len 60
theorem gLevel (T : Tx K mg) : FnOk P w K mg base CX0 62 T.fLevel T.dLevel ["known", "size", "shape"] spLevel := ok_level T.DLevel.fn T.DTaken T.gTaken T.DSizeOf T.DStr T.gStr T.m_dict
theorem gPair (T : Tx K mg) : FnOk P w K mg base CX0 63 T.fPair T.dPair ["sizes", "end", "known", "shape"] spPair := ok_pair T.DPair.fn T.DLevel T.gLevel T.DSizeOf T.DComb T.m_range T.m_enumerate
theorem gFits (T : Tx K mg) : FnOk P w K mg base CX0 64 T.fFits T.dFits ["sizes", "end", "n", "shape"] spFits := ok_fits T.DFits.fn T.DIsShape T.gIsShape T.DSizeOf T.DPair T.gPair T.DNoth
theorem gTold (T : Tx K mg) : FnOk P w K mg base CX0 64 T.fTold T.dTold ["sizes", "end", "pairs"] spTold := ok_told T.DTold.fn T.DPair T.gPair T.DNoth T.m_enumerate T.m_range T.m_zip
theorem gLSource (T : Tx K mg) : FnOk P w K mg base CX0 1 T.fLSource T.dLSource ["_law_script"] (spLSource K) := ok_lsource T.DLSource.fn T.m_int T.m_abs
theorem gLPick (T : Tx K mg) : FnOk P w K mg base CX0 1 T.fLPick T.dLPick ["_law_source_here", "_law_many"] spLPick := ok_lpick T.DLPick.fn T.m_int T.m_max T.m_len
theorem gLOf (T : Tx K mg) : FnOk P w K mg base CX0 2 T.fLOf T.dLOf ["_law_source_here", "_law_some"] spLOf := ok_lof T.DLOf.fn T.DLPick T.m_int T.m_max T.m_len
theorem gLShape (T : Tx K mg) : FnOk P w K mg base CX0 16 T.fLShape T.dLShape ["_law_source_here", "_law_n"] (spLShape 7) := ok_lshape T.DLShape T.DLPick T.DLComb T.DLHalves T.m_int T.m_max T.m_len T.m_range 7 (by decide)
theorem gLAny (T : Tx K mg) : FnOk P w K mg base CX0 17 T.fLAny T.dLAny ["_law_source_here", "_law_size_here"] spLAny := ok_lany T.DLAny.fn T.DLShape T.gLShape T.m_tuple T.m_range
theorem gLFilled (T : Tx K mg) : FnOk P w K mg base CX0 61 T.fLFilled T.dLFilled ["_law_form", "_law_lumps"] (spLFilled 60) := ok_lfilled T.DLFilled T.DLSize 60 (by decide)
theorem gLPressed (T : Tx K mg) : FnOk P w K mg base CX0 62 T.fLPressed T.dLPressed ["_law_table", "_law_row"] spLPressed := ok_lpressed T.DLPressed.fn T.DLEntry T.DLFilled T.gLFilled T.m_len T.m_range
theorem gLTold (T : Tx K mg) : FnOk P w K mg base CX0 63 T.fLTold T.dLTold ["_law_world", "_law_n"] spLTold := ok_ltold T.DLTold.fn T.DLStage T.DLPressed T.gLPressed T.DLFilled T.gLFilled T.DLComb T.m_len T.m_range
theorem gLUsed (T : Tx K mg) : FnOk P w K mg base CX0 1 T.fLUsed T.dLUsed ["_law_sizes_here", "_law_n"] spLUsed := ok_lused T.DLUsed.fn T.m_int T.m_min T.m_len T.m_range T.m_set T.m_sorted
theorem gLSizes (T : Tx K mg) : FnOk P w K mg base CX0 3 T.fLSizes T.dLSizes ["_law_source_here", "_law_most"] spLSizes := ok_lsizes T.DLSizes.fn T.DLPick T.DLOf T.m_int T.m_max T.m_len T.m_range
theorem gLPlan (T : Tx K mg) : FnOk P w K mg base CX0 18 T.fLPlan T.dLPlan ["_law_source_here", "_law_sizes_here", "_law_end"] spLPlan := ok_lplan T.DLPlan.fn T.DLAny T.gLAny T.m_tuple
end Tx
theorem scLaw : FnScope ["_law_script", "_law_source_here", "_law_lap", "_law_sizes_here", "_law_end", "_law_world", "_law_numbers", "_law_n", "_law_pairs", "_law_used_here", "_law_due", "_law_k", "_law_entries", "_law_given", "_law_some", "_law_told_here", "_law_turn", "_law_m", "_law_pair"] ["_law_script"] (defScope sLaw) := ⟨rfl, rfl, rfl, by decide +kernel, rfl, by decide +kernel, by decide +kernel⟩
end Lp
set_option Elab.async false
set_option linter.all false
set_option maxRecDepth 100000
set_option maxHeartbeats 4000000
/-! The told entries as data. -/
namespace Lp
open PySem PySem.Spec PyProof.Rows L2 Sh
structure Nice (d : PyData) (n L : Nat) : Prop where
  lay : d.canLay0 = true
  dep : d.depth ≤ n
  shw : d.showable = true
  dic : d.hasDict = false
  len : d.shown.length ≤ L
theorem nice_none : Nice .none 1 4 := ⟨by simp [PyData.canLay0], by simp [PyData.depth], by simp [PyData.showable], by simp [PyData.hasDict], by simp only [PyData.shown]; decide +kernel⟩
theorem nice_mono {d : PyData} {n m L M : Nat} (h : Nice d n L) (h1 : n ≤ m) (h2 : L ≤ M) : Nice d m M := ⟨h.lay, Nat.le_trans h.dep h1, h.shw, h.dic, Nat.le_trans h.len h2⟩
theorem nice_all : ∀ {ds : List PyData} {n L : Nat}, (∀ d ∈ ds, Nice d n L) → PyData.canLayAll0 ds = true ∧ PyData.depthAll ds ≤ n ∧ PyData.showableAll ds = true ∧ PyData.hasDictAll ds = false ∧ (PyData.shownAll ds).length = ds.length ∧ ((PyData.shownAll ds).map fun x => x.length).sum ≤ ds.length * L
  | [], n, L, _ => ⟨by simp [PyData.canLayAll0], by simp [PyData.depthAll], by simp [PyData.showableAll], by simp [PyData.hasDictAll], by simp [PyData.shownAll], by simp [PyData.shownAll]⟩
  | d :: ds, n, L, h => by
    have h1 := h d List.mem_cons_self
    obtain ⟨a, b, c, e, f, g⟩ := nice_all (ds := ds) (n := n) (L := L) fun x hx => h x (List.mem_cons_of_mem _ hx)
    have h2 := h1.dep
    have h3 := h1.len
    refine ⟨?_, ?_, ?_, ?_, ?_, ?_⟩
    · simp only [PyData.canLayAll0, h1.lay, a, Bool.and_self]
    · simp only [PyData.depthAll]
      omega
    · simp only [PyData.showableAll, h1.shw, c, Bool.and_self]
    · simp only [PyData.hasDictAll, h1.dic, e, Bool.or_self]
    · simp only [PyData.shownAll, List.length_cons, f]
    · simp only [PyData.shownAll, List.map_cons, List.sum_cons, List.length_cons, Nat.succ_mul]
      omega
theorem nice_list {ds : List PyData} {n L : Nat} (h : ∀ d ∈ ds, Nice d n L) : Nice (.list ds) (n + 1) (ds.length * L + 2 * ds.length + 3) := by
  obtain ⟨a, b, c, e, f, g⟩ := nice_all h
  refine ⟨by simp only [PyData.canLay0]; exact a, ?_, by simp only [PyData.showable]; exact c, by simp only [PyData.hasDict]; exact e, ?_⟩
  · simp only [PyData.depth]
    omega
  · simp only [PyData.shown]
    have := listText_len_le (PyData.shownAll ds)
    omega
theorem nice_sh : ∀ s : Sh, Nice s.dat s.size (10 * s.size)
  | .o => ⟨dat_lay .o, dat_depth .o, by simp [Sh.dat, PyData.showable, PyData.showableAll], by simp [Sh.dat, PyData.hasDict, PyData.hasDictAll], by
    have := tupleText_len_le []
    simp only [Sh.dat, PyData.shown, PyData.shownAll]
    have e : (List.map (fun x : Str => x.length) []).sum + 2 * ([] : List Str).length + 3 = 3 := rfl
    rw [e] at this
    have e2 : Sh.o.size = 1 := rfl
    omega⟩
  | .p l r => by
    have h1 := sh_len (.p l r)
    refine ⟨dat_lay _, dat_depth _, ?_, ?_, by omega⟩
    · have a := (nice_sh l).shw
      have b := (nice_sh r).shw
      simp only [Sh.dat, PyData.showable, PyData.showableAll, a, b, Bool.and_self]
    · have a := (nice_sh l).dic
      have b := (nice_sh r).dic
      simp only [Sh.dat, PyData.hasDict, PyData.hasDictAll, a, b, Bool.or_self]
where
  sh_len : ∀ s : Sh, s.dat.shown.length + 7 ≤ 10 * s.size
    | .o => by
      have := tupleText_len_le []
      simp only [Sh.dat, PyData.shown, PyData.shownAll]
      have e : (List.map (fun x : Str => x.length) []).sum + 2 * ([] : List Str).length + 3 = 3 := rfl
      rw [e] at this
      have e2 : Sh.o.size = 1 := rfl
      omega
    | .p l r => by
      have h1 := sh_len l
      have h2 := sh_len r
      have := tupleText_len_le [l.dat.shown, r.dat.shown]
      simp only [Sh.dat, PyData.shown, PyData.shownAll]
      simp only [List.map_cons, List.map_nil, List.sum_cons, List.sum_nil, List.length_cons, List.length_nil] at this
      have e2 : (Sh.p l r).size = l.size + r.size := rfl
      omega
theorem dpAll_get {K : PySem.W.Frag} {H : Hp} : ∀ {us : List V} {ds : List PyData}, us.length = ds.length → (∀ (j : Nat) u d, us[j]? = some u → ds[j]? = some d → Dp K H u d) → DpAll K H us ds
  | [], [], _, _ => .nil
  | [], _ :: _, e, _ => by cases e
  | _ :: _, [], e, _ => by cases e
  | u :: us, d :: ds, e, h => .cons (h 0 u d rfl rfl) (dpAll_get (Nat.succ.inj e) fun j v x h1 h2 => h (j + 1) v x h1 h2)
open Classical in
/-- an entry as data -/
noncomputable def entD (T : Tab) (S : Nat → Prop) (j : Nat) : PyData := if S (j + 2) then (T.entry (j + 2)).dat else .none
noncomputable def rowD (T : Tab) (S : Nat → Prop) : List PyData := (List.range T.length).map (entD T S)
noncomputable def allD (Ts : List Tab) (S : Nat → Nat → Prop) : List PyData := (List.range Ts.length).map fun k => .list (rowD (Ts.getD k []) (S k))
theorem row_dp {K : PySem.W.Frag} {H : Hp} {T : Tab} {S : Nat → Prop} {us : List V} (h : RowTo H T S T.length us) : DpAll K H us (rowD T S) := by
  refine dpAll_get (by rw [h.1]; unfold rowD; rw [List.length_map, List.length_range]) fun j u d e1 e2 => ?_
  unfold rowD at e2
  rw [List.getElem?_map] at e2
  have hj : j < T.length := by
    have := (List.getElem?_eq_some_iff.mp e1).1
    rw [h.1] at this
    exact this
  rw [List.getElem?_range hj] at e2
  cases e2
  obtain ⟨v, e3, e4⟩ := h.2 j hj
  rw [e1] at e3
  cases e3
  unfold entD
  rcases e4 with ⟨hs, hv⟩ | ⟨hs, rfl⟩
  · rw [if_pos hs]
    exact hv.dp
  · rw [if_neg hs]
    exact .non
theorem rows_dp {K : PySem.W.Frag} {H0 H : Hp} {p : Addr} {Ts : List Tab} {S : Nat → Nat → Prop} {rows : List V} (h : RowsTo H0 H p Ts S Ts.length rows) : DpAll K H rows (allD Ts S) := by
  refine dpAll_get (by rw [h.1]; unfold allD; rw [List.length_map, List.length_range]) fun k u d e1 e2 => ?_
  unfold allD at e2
  rw [List.getElem?_map] at e2
  have hk : k < Ts.length := by
    have := (List.getElem?_eq_some_iff.mp e1).1
    rw [h.1] at this
    exact this
  rw [List.getElem?_range hk] at e2
  cases e2
  obtain ⟨r, us, f1, f2, f3, f4, f5⟩ := h.2 k _ hk (List.getElem?_eq_getElem hk)
  rw [e1] at f1
  cases f1
  show Dp K H (V.ref r) (PyData.list (rowD (Ts.getD k []) (S k)))
  rw [List.getD_eq_getElem?_getD, List.getElem?_eq_getElem hk]
  exact .lst (SqL.of f4) (row_dp f5)
theorem all_nice {Ts : List Tab} {S : Nat → Nat → Prop} (h1 : Ts.length ≤ 3) (h2 : ∀ T ∈ Ts, Tab.Ok T ∧ T.size ≤ 7) : Nice (.list (allD Ts S)) 9 5000 := by
  have hl : (allD Ts S).length = Ts.length := by unfold allD; rw [List.length_map, List.length_range]
  have h3 : ∀ d ∈ allD Ts S, Nice d 8 600 := by
    intro d hd
    unfold allD at hd
    obtain ⟨k, hk, rfl⟩ := List.mem_map.mp hd
    have hk' : k < Ts.length := List.mem_range.mp hk
    rw [List.getD_eq_getElem?_getD, List.getElem?_eq_getElem hk']
    obtain ⟨hok, hsz⟩ := h2 _ (List.getElem_mem hk')
    show Nice (.list (rowD Ts[k] (S k))) 8 600
    generalize Ts[k] = T at hok hsz
    have hl2 : (rowD T (S k)).length = T.length := by unfold rowD; rw [List.length_map, List.length_range]
    have hT6 : T.length ≤ 6 := by unfold Tab.size at hsz; omega
    have h4 : ∀ d ∈ rowD T (S k), Nice d 7 70 := by
      intro d hd
      unfold rowD at hd
      obtain ⟨j, hj, rfl⟩ := List.mem_map.mp hd
      have hj' : j < T.length := List.mem_range.mp hj
      unfold entD
      split
      · have e := Tab.entry_size hok (m := j + 2) (by omega) (by unfold Tab.size; omega)
        have := nice_sh (T.entry (j + 2))
        rw [e] at this
        exact nice_mono this (by omega) (by omega)
      · exact nice_mono nice_none (by omega) (by omega)
    have h5 := nice_list h4
    rw [hl2] at h5
    exact nice_mono h5 (by omega) (by omega)
  have h4 := nice_list h3
  rw [hl] at h4
  exact nice_mono h4 (by omega) (by omega)
theorem nice_shaped {d : PyData} {n L : Nat} (h : Nice d n L) (hn : n ≤ 64) : SeqAt.shaped d = true := by
  have := h.dep
  show (d.canLay0 && decide (d.depth ≤ 64)) = true
  rw [Bool.and_eq_true]
  exact ⟨h.lay, decide_eq_true (by omega)⟩
theorem cut_last (xs : List V) (v : V) : cutV (xs ++ [v]) none (some (-1)) = xs := by
  unfold cutV
  rw [HT.sIx_none, List.drop_zero, Nat.sub_zero]
  have e : HT.sIx (xs ++ [v]).length (xs ++ [v]).length (some (-1)) = xs.length := by
    rw [List.length_append, List.length_singleton]
    show (if (-1 : Int) < 0 then ((-1 : Int) + ((xs.length + 1 : Nat) : Int)).toNat else min (-1 : Int).toNat (xs.length + 1)) = _
    rw [if_pos (by omega)]
    omega
  rw [e, List.take_left]
end Lp
set_option Elab.async false
set_option linter.all false
set_option maxRecDepth 100000
set_option maxHeartbeats 8000000
namespace Lp
open PySem PySem.Spec PyProof.Rows L2 Sh
section
variable {P : Program} {w : World} {K : PySem.W.Frag} {mg : Str → Option Value} {base : Heap}
/-- the law's slots between two laps -/
def LapS (a d : Addr) (σ : L2.St) : Prop := ∃ (y2 y3 y4 y5 y6 y7 y8 y9 y10 y11 y12 y13 y14 y15 y16 y17 y18 : Option V), σ = [some (.ref a), some (.ref d), y2, y3, y4, y5, y6, y7, y8, y9, y10, y11, y12, y13, y14, y15, y16, y17, y18]
/-- a table of size 3 -/
def tab3 : Tab := [comb true 1, comb true 2]
theorem tab3_ok : Tab.Ok tab3 := tab_ok (by decide) fun j s e => by
  match j, e with
  | 0, e =>
    cases e
    rfl
  | 1, e =>
    cases e
    rfl
  | j + 2, e => simp [tab3] at e
theorem side_at {r : Nat} {v : V} (h : ([V.str "left", V.str "right"] : List V)[r]? = some v) : ∃ left, v = .str (sideS left) := by
  match r, h with
  | 0, h => exact ⟨true, (Option.some.inj h).symm⟩
  | 1, h => exact ⟨false, (Option.some.inj h).symm⟩
  | r + 2, h => simp at h
theorem map_tsz {Ts : List Tab} {bs : List Nat} (h : Ts.map Tab.size = bs) : natV bs = tsz Ts := by
  subst h
  unfold natV tsz
  rw [List.map_map]
  rfl
theorem pairs_snoc {H : Hp} {left : Bool} {Ts : List Tab} {ns : List Nat} {i n : Nat} {xs : List V} {t : Addr} {v : V} (h : PairsAt H left Ts (ns.take i) xs) (hi : ns[i]? = some n) (ht : H t = some (.tup [.int (n : Nat), v])) (hv : ShV H (tell left Ts n) v) : PairsAt H left Ts (ns.take (i + 1)) (xs ++ [.ref t]) := by
  have hlt : i < ns.length := (List.getElem?_eq_some_iff.mp hi).1
  have hl : (ns.take i).length = i := by rw [List.length_take]; omega
  have hx : xs.length = i := h.1.trans hl
  rw [take_succ' hi]
  refine ⟨by rw [List.length_append, List.length_append, h.1]; rfl, fun j m e => ?_⟩
  by_cases hj : j < i
  · rw [List.getElem?_append_left (by omega)] at e
    obtain ⟨t', v', e1, e2, e3⟩ := h.2 j m e
    exact ⟨t', v', by rw [List.getElem?_append_left (by omega)]; exact e1, e2, e3⟩
  · rw [List.getElem?_append_right (by omega), hl] at e
    have hj0 : j - i = 0 := by
      have := (List.getElem?_eq_some_iff.mp e).1
      rw [List.length_singleton] at this
      omega
    rw [hj0] at e
    cases e
    exact ⟨t, v, by rw [List.getElem?_append_right (by omega), hx, hj0]; rfl, ht, hv⟩
theorem take_more {zs : List Nat} : natV zs ++ (natV zs).take 1 = natV (zs ++ zs.take 1) := by
  unfold natV
  rw [List.map_append, List.map_take]
def entL (n : Nat) : List V := (List.range n).map fun z => V.int ((z + 2 : Nat) : Int)
theorem entL_len (n : Nat) : (entL n).length = n := by unfold entL; rw [List.length_map, List.length_range]
theorem entL_succ (n : Nat) : entL (n + 1) = entL n ++ [.int ((n + 2 : Nat) : Int)] := by
  unfold entL
  rw [List.range_succ, List.map_append]
  rfl
theorem entL_get {n j : Nat} {x : V} (h : (entL n)[j]? = some x) : j < n ∧ x = .int ((j + 2 : Nat) : Int) := by
  have hj : j < n := by
    have := (List.getElem?_eq_some_iff.mp h).1
    rw [entL_len] at this
    exact this
  unfold entL at h
  rw [List.getElem?_map, List.getElem?_range hj] at h
  exact ⟨hj, (Option.some.inj h).symm⟩
theorem entry_get {T : Tab} {j : Nat} {s : Sh} (h : T[j]? = some s) : T.entry (j + 2) = s := by
  unfold Tab.entry
  rw [if_neg (by omega), List.getD_eq_getElem?_getD, show j + 2 - 2 = j by omega, h]
  rfl
/-- pairs as data -/
def prD (q : Nat × Nat) : PyData := .tuple [.int (q.1 : Nat), .int (q.2 : Nat)]
theorem prv_dp {K : PySem.W.Frag} {H : Hp} {us : List V} {U : List (Nat × Nat)} (h : PrV H us U) : DpAll K H us (U.map prD) := by
  induction h with
  | nil => exact .nil
  | cons r _ ih =>
    obtain ⟨t, rfl, e2⟩ := r
    exact .cons (.tup (SqT.of e2) (.cons (.int _) (.cons (.int _) .nil))) ih
theorem prD_shaped (q : Nat × Nat) : SeqAt.shaped (prD q) = true := by
  show (PyData.canLay0 (prD q) && decide (PyData.depth (prD q) ≤ 64)) = true
  simp [prD, PyData.canLay0, PyData.canLayAll0, PyData.depth, PyData.depthAll]
theorem prDs_lay : ∀ U : List (Nat × Nat), PyData.canLayAll0 (U.map prD) = true ∧ PyData.depthAll (U.map prD) ≤ 5
  | [] => by simp [PyData.canLayAll0, PyData.depthAll]
  | q :: U => by
    obtain ⟨h1, h2⟩ := prDs_lay U
    constructor
    · simp [prD, PyData.canLay0, PyData.canLayAll0, h1]
    · simp only [List.map_cons, PyData.depthAll, prD, PyData.depth]
      omega
theorem prDs_shaped (U : List (Nat × Nat)) : SeqAt.shaped (.list (U.map prD)) = true := by
  obtain ⟨h1, h2⟩ := prDs_lay U
  have h3 : PyData.depth (.list (U.map prD)) ≤ 64 := by
    simp only [PyData.depth]
    omega
  show (PyData.canLay0 (.list (U.map prD)) && decide (PyData.depth (.list (U.map prD)) ≤ 64)) = true
  rw [Bool.and_eq_true]
  exact ⟨by simp only [PyData.canLay0]; exact h1, decide_eq_true h3⟩
theorem prD_eqv (q r : Nat × Nat) : PyData.eqv (prD q) (prD r) = decide (q = r) := by
  obtain ⟨a, b⟩ := q
  obtain ⟨i, m⟩ := r
  have h : ∀ x y : Nat, (((x : Nat) : Int) == ((y : Nat) : Int)) = decide (x = y) := fun x y => by
    rw [Bool.eq_iff_iff, beq_iff_eq, decide_eq_true_iff]
    omega
  simp only [prD, PyData.eqv, PyData.eqvAll]
  simp [h]
theorem prD_any (U : List (Nat × Nat)) (r : Nat × Nat) : ((U.map prD).any fun z => PyData.eqv z (prD r)) = decide (r ∈ U) := by
  induction U with
  | nil => simp
  | cons q U ih =>
    rw [List.map_cons, List.any_cons, ih, prD_eqv]
    by_cases h : q = r
    · subst h
      simp
    · have h' : ¬ r = q := fun z => h z.symm
      simp [h, h']
theorem law_run {f : Addr} {fd : FuncData} (F : Fun K "law" "law" sLaw f fd) (T : Tx K mg) {s : Shared} {H : Hp} {a : Addr} {ns : List Int} (hbd : BindsTo s fd { pos := [.ref a] } [("_law_script", .ref a)]) (ha : SqL K H a (ns.map V.int)) (hl : ns.length ≤ 63) (e0 : Env0 P w K mg base callerA [] s H) :
    codeAny (model P w) callerA (Code.call (.ref f) { pos := [.ref a] }) (CR CX0 [] P w H s (fun v _ => v = .bl true) (fun _ _ _ => False)) s := by
  refine fn_at (k := 64) (us := [.ref a]) (vs := [.ref a]) F scLaw rfl ⟨rfl, by decide, by decide⟩ e0 hbd (.cons rfl .nil) fun cdv hr => ?_
  have hg : (callerA.deeper (envOfC "law" (defScope sLaw) s.heap.objs.size f cdv)).guards = some [] := rfl
  have hu := hu_of hr
  have hu64 := hr.units
  have hu65 : (callerA.deeper (envOfC "law" (defScope sLaw) s.heap.objs.size f cdv)).units + 65 < cLine := by
    have := hr.un
    omega
  have hr64 := hr
  have hr63 : Room 63 (callerA.deeper (envOfC "law" (defScope sLaw) s.heap.objs.size f cdv)) := hr.mono (by decide)
  have hr18 : Room 18 (callerA.deeper (envOfC "law" (defScope sLaw) s.heap.objs.size f cdv)) := hr.mono (by decide)
  have hr3 : Room 3 (callerA.deeper (envOfC "law" (defScope sLaw) s.heap.objs.size f cdv)) := hr.mono (by decide)
  have hr2 : Room 2 (callerA.deeper (envOfC "law" (defScope sLaw) s.heap.objs.size f cdv)) := hr.mono (by decide)
  have hr1 : Room 1 (callerA.deeper (envOfC "law" (defScope sLaw) s.heap.objs.size f cdv)) := hr.mono (by decide)
  refine ⟨_, (pss_cons (ps_set (i := 1) scLaw.nd rfl (.inr rfl) (pe_df T.DLSource T.gLSource hr1 (by rfl) (pa_cons (pv 0) pa_nil)))
    (pss_cons (ps_for PassesOwn.never rfl (pi_range1 rfl T.m_range (pa_cons pe_int pa_nil)) (pg_name (i := 2) scLaw.nd rfl (.inl rfl)) (pss_cons (ps_asg (pe_tup (pa_cons (pe_df T.DLSizes T.gLSizes hr3 (by rfl) (pa_cons (pv 1) (pa_cons pe_int pa_nil))) (pa_cons (pe_df T.DLOf T.gLOf hr2 (by rfl) (pa_cons (pv 1) (pa_cons (pe_lst (pa_cons pe_str (pa_cons pe_str pa_nil))) pa_nil))) pa_nil))) (pg_tup rfl (pgs_cons (pg_name (i := 3) scLaw.nd rfl (.inr rfl)) (pgs_cons (pg_name (i := 4) scLaw.nd rfl (.inr rfl)) pgs_nil))))
    (pss_cons (ps_set (i := 5) scLaw.nd rfl (.inr rfl) (pe_df T.DLPlan T.gLPlan hr18 (by rfl) (pa_cons (pv 1) (pa_cons (pv 3) (pa_cons (pv 4) pa_nil)))))
    (pss_cons (ps_setLc (i := 6) (own := [("_law_turn", 16)]) (g := gName 16) (tt := tYes) (by rfl) scLaw.nd rfl rfl (sw_true rfl rfl rfl (by decide +kernel)) (pi_range1 rfl T.m_range (pa_cons (pe_df T.DLPick T.gLPick hr1 (by rfl) (pa_cons (pv 1) (pa_cons pe_int pa_nil))) pa_nil)) (blkOk_by (own := [("_law_turn", 16)]) (N := ["_law_script", "_law_source_here", "_law_lap", "_law_sizes_here", "_law_end", "_law_world", "_law_numbers", "_law_n", "_law_pairs", "_law_used_here", "_law_due", "_law_k", "_law_entries", "_law_given", "_law_some", "_law_told_here", "_law_turn", "_law_m", "_law_pair"]) (sc := defScope sLaw) (by decide +kernel)) (fun _ _ _ _ _ => (pg_name (i := 16) scLaw.nd rfl (.inl rfl))) (fun _ _ _ _ _ => pts_nil) (fun _ _ _ _ _ => (pe_op op_add pe_int (pe_df T.DLPick T.gLPick hr1 (by rfl) (pa_cons (pv 1) (pa_cons (pe_df T.DLOf T.gLOf hr2 (by rfl) (pa_cons (pv 1) (pa_cons (pe_lst (pa_cons pe_int (pa_cons pe_int (pa_cons pe_int pa_nil)))) pa_nil))) pa_nil))))))
    (pss_cons (ps_set (i := 6) scLaw.nd rfl (.inl rfl) (pe_op op_cat (pv 6) (pe_slice sl_list (pv 6) po_none (po_some pe_int))))
    (pss_cons (ps_asg (pe_tup (pa_cons (pe_lc (own := [("_law_n", 7)]) (g := gName 7) (tt := tYes) rfl scLaw.nd (pi_list (pv 6)) (blkOk_by (own := [("_law_n", 7)]) (N := ["_law_script", "_law_source_here", "_law_lap", "_law_sizes_here", "_law_end", "_law_world", "_law_numbers", "_law_n", "_law_pairs", "_law_used_here", "_law_due", "_law_k", "_law_entries", "_law_given", "_law_some", "_law_told_here", "_law_turn", "_law_m", "_law_pair"]) (sc := defScope sLaw) (by decide +kernel)) (fun _ _ _ _ _ => (pg_name (i := 7) scLaw.nd rfl (.inl rfl))) (fun _ _ _ _ _ => pts_nil) (fun _ _ _ _ _ => (pe_tup (pa_cons (pv 7) (pa_cons (pe_df T.DLTold T.gLTold hr63 (by rfl) (pa_cons (pv 5) (pa_cons (pv 7) pa_nil))) pa_nil))))) (pa_cons (pe_lst pa_nil) pa_nil))) (pg_tup rfl (pgs_cons (pg_name (i := 8) scLaw.nd rfl (.inl rfl)) (pgs_cons (pg_name (i := 9) scLaw.nd rfl (.inr rfl)) pgs_nil))))
    (pss_cons (ps_for PassesOwn.never rfl (pi_list (pv 6)) (pg_name (i := 7) scLaw.nd rfl (.inl rfl)) (pss_one (ps_set (i := 9) scLaw.nd rfl (.inr rfl) (pe_op op_cat (pv 9) (pe_df T.DLUsed T.gLUsed hr1 (by rfl) (pa_cons (pv 3) (pa_cons (pv 7) pa_nil)))))))
    (pss_cons (ps_set (i := 10) scLaw.nd rfl (.inl rfl) (pe_lst pa_nil))
    (pss_cons (ps_for PassesOwn.never rfl (pi_range1 rfl T.m_range (pa_cons (pe_callB call_len_seq (by rfl) T.m_len PySem.boot_len (pa_cons (pv 3) pa_nil)) pa_nil)) (pg_name (i := 11) scLaw.nd rfl (.inr rfl)) (pss_cons (ps_setLc (i := 12) (own := [("_law_m", 17)]) (g := gName 17) (tt := tYes) (by rfl) scLaw.nd rfl rfl (sw_true rfl rfl rfl (by decide +kernel)) (pi_range2 (by rfl) T.m_range (pa_cons pe_int (pa_cons (pe_op op_add (pe_ix (r := L2.rIxL K) ix_list (pv 3) (pv 11) (fun _ _ => rfl)) pe_int) pa_nil))) (blkOk_by (own := [("_law_m", 17)]) (N := ["_law_script", "_law_source_here", "_law_lap", "_law_sizes_here", "_law_end", "_law_world", "_law_numbers", "_law_n", "_law_pairs", "_law_used_here", "_law_due", "_law_k", "_law_entries", "_law_given", "_law_some", "_law_told_here", "_law_turn", "_law_m", "_law_pair"]) (sc := defScope sLaw) (by decide +kernel)) (fun _ _ _ _ _ => (pg_name (i := 17) scLaw.nd rfl (.inl rfl))) (fun _ _ _ _ _ => pts_nil) (fun _ _ _ _ _ => (pv 17)))
    (pss_one (ps_expr (pe_bm PySem.F.plainAttrs_list PySem.F.slot_list_append PySem.F.type_list_append mt_append (pv 10) (pa_cons (pe_lc (own := [("_law_m", 17)]) (g := gName 17) (tt := tYes) rfl scLaw.nd (pi_list (pv 12)) (blkOk_by (own := [("_law_m", 17)]) (N := ["_law_script", "_law_source_here", "_law_lap", "_law_sizes_here", "_law_end", "_law_world", "_law_numbers", "_law_n", "_law_pairs", "_law_used_here", "_law_due", "_law_k", "_law_entries", "_law_given", "_law_some", "_law_told_here", "_law_turn", "_law_m", "_law_pair"]) (sc := defScope sLaw) (by decide +kernel)) (fun _ _ _ _ _ => (pg_name (i := 17) scLaw.nd rfl (.inl rfl))) (fun _ _ _ _ _ => pts_nil) (fun _ _ _ _ _ => (pe_ifExp (PW.pt (pw_or (pt_cmpR op_eq (pv 17) pe_int (nomark _)) (pw_or1 (pt_cmpR (r := L2.rInD K) (op_inD hu65) (pe_tup (pa_cons (pv 11) (pa_cons (pv 17) pa_nil))) (pv 9) (by rfl))))) (pe_ix (r := L2.rIxT K) ix_tup (pe_ix (r := L2.rIxT K) ix_tup (pe_dget hu (pv 5) pe_str (fun _ _ => rfl)) (pv 11) (fun _ _ => rfl)) (pe_op op_sub (pv 17) pe_int) (fun _ _ => rfl)) pe_non))) pa_nil))))))
    (pss_cons (ps_for PassesOwn.never rfl (pi_list (pe_lst (pa_cons (pe_tup (pa_cons (pv 8) (pa_cons (pv 3) pa_nil))) (pa_cons (pe_tup (pa_cons (pe_callTy call_tuple_of (by rfl) T.m_tuple PyProof.Rows.boot_tuple (pa_cons (pv 8) pa_nil)) (pa_cons (pe_callTy call_tuple_of (by rfl) T.m_tuple PyProof.Rows.boot_tuple (pa_cons (pv 3) pa_nil)) pa_nil))) pa_nil)))) (pg_tup rfl (pgs_cons (pg_name (i := 13) scLaw.nd rfl (.inl rfl)) (pgs_cons (pg_name (i := 14) scLaw.nd rfl (.inl rfl)) pgs_nil))) (pss_cons (ps_set (i := 15) scLaw.nd rfl (.inl rfl) (pe_df T.DTold T.gTold hr64 (by rfl) (pa_cons (pv 14) (pa_cons (pv 4) (pa_cons (pv 13) pa_nil)))))
    (pss_cons (ps_if (pt_cmpR op_ne (pe_callB (cr_reprD hg hu64) (by rfl) T.m_repr PyProof.Rows.boot_repr (pa_cons (pv 15) pa_nil)) (pe_callB (cr_reprD hg hu64) (by rfl) T.m_repr PyProof.Rows.boot_repr (pa_cons (pv 10) pa_nil)) (nomark _)) pss_never pss_nil)
    (pss_cons (ps_expr (pe_bm PySem.F.plainAttrs_list PySem.F.slot_list_append PySem.F.type_list_append mt_append (pv 15) (pa_cons pe_non pa_nil)))
    (pss_one (ps_for PassesOwn.never rfl (pi_list (pe_slice sl_list (pv 15) po_none (po_some (pe_un un_neg pe_int)))) (pg_name (i := 12) scLaw.nd rfl (.inl rfl)) (pss_one (ps_expr (pe_bm PySem.F.plainAttrs_list PySem.F.slot_list_append PySem.F.type_list_append mt_append (pv 12) (pa_cons pe_non pa_nil))))))))))
    (pss_one (ps_if (pt_cmpR (op_neD hu64) (pe_lc (own := [("_law_pair", 18)]) (g := gName 18) rfl scLaw.nd (pi_list (pv 8)) (blkOk_by (own := [("_law_pair", 18)]) (N := ["_law_script", "_law_source_here", "_law_lap", "_law_sizes_here", "_law_end", "_law_world", "_law_numbers", "_law_n", "_law_pairs", "_law_used_here", "_law_due", "_law_k", "_law_entries", "_law_given", "_law_some", "_law_told_here", "_law_turn", "_law_m", "_law_pair"]) (sc := defScope sLaw) (by decide +kernel)) (fun _ _ _ _ _ => (pg_name (i := 18) scLaw.nd rfl (.inl rfl))) (fun _ _ _ _ _ => pts_one (pt_cmpR op_notBl (pe_df T.DFits T.gFits hr64 (by rfl) (pa_cons (pv 3) (pa_cons (pv 4) (pa_cons (pe_ix (r := L2.rIxT K) ix_tup (pv 18) pe_int (fun _ _ => rfl)) (pa_cons (pe_ix (r := L2.rIxT K) ix_tup (pv 18) pe_int (fun _ _ => rfl)) pa_nil))))) pe_bl (nomark _))) (fun _ _ _ _ _ => (pv 18))) (pe_lst pa_nil) (nomark _)) pss_never pss_nil))))))))))))
    (pss_one (ps_ret (pe_and (pe_cmpR (op_eqD hu64) (pe_df T.DTold T.gTold hr64 (by rfl) (pa_cons (pe_lst pa_nil) (pa_cons pe_str (pa_cons (pe_lst pa_nil) pa_nil)))) (pe_lst pa_nil) (nomark _)) (pe_one (pe_cmpR (op_eqD hu64) (pe_df T.DTold T.gTold hr64 (by rfl) (pa_cons (pe_lst (pa_cons pe_int pa_nil)) (pa_cons pe_str (pa_cons (pe_lst pa_nil) pa_nil)))) (pe_lst (pa_cons (pe_lst (pa_cons (pe_tup (pa_cons (pe_tup pa_nil) (pa_cons (pe_tup pa_nil) pa_nil))) (pa_cons pe_non pa_nil))) pa_nil)) (nomark _)))))))), ?_⟩
  refine ⟨_, rfl, a, ns, rfl, ha, by omega, fun d c H1 _ _ _ hsrc1 => ?_⟩
  refine ⟨5, rfl, by omega, by omega, ?_⟩
  refine for_range (lo := 0) (n := _) (fun _ σ H' => LapS a d σ ∧ Src H' d c) ⟨⟨none, none, none, none, none, none, none, none, none, none, none, none, none, none, none, none, none, rfl⟩, hsrc1⟩ ?_ ?_
  · rintro lap σ H2 _ ⟨⟨y2, y3, y4, y5, y6, y7, y8, y9, y10, y11, y12, y13, y14, y15, y16, y17, y18, rfl⟩, hs2⟩
    -- sizes, end
    refine ⟨_, rfl, d, c, rfl, hs2, fun p bs H3 sm3 hs3 np hp3 hbl hbb => ⟨_, rfl, le_line (by simp), fun l hl => ?_⟩⟩
    have op := hs2.off np
    have ol := hs3.off hl
    refine ⟨d, c, l, _, rfl, hs3.same (same_new hl), ol.1, ol.2, upd_same, by simp, by simp, fun r v H4 hv sm4 hs4 => ?_⟩
    obtain ⟨left, rfl⟩ := side_at hv
    have hp4 : H4 p = some (.lst (natV bs)) := sm4 _ _ (same_new hl _ _ hp3) op.1 op.2
    refine ⟨le_line (by simp), fun t ht => ?_⟩
    have hs5 := hs4.same (same_new (o := .tup [.ref p, .str (sideS left)]) ht)
    have hp5 := same_new (o := .tup [.ref p, .str (sideS left)]) ht _ _ hp4
    refine ⟨t, _, rfl, SqT.of upd_same, rfl, _, _, rfl, _, [], rfl, rfl, ?_⟩
    -- the plan
    refine ⟨_, rfl, _, rfl, _, rfl, d, c, p, left, bs, rfl, hs5, op.1, op.2, hp5, hbl, hbb, fun wa Ts H6 sm6 hs6 nwa hW hok hmap => ?_⟩
    have ow := hs5.off nwa
    have hp6 : H6 p = some (.lst (tsz Ts)) := by
      rw [← map_tsz hmap]
      exact sm6 _ _ hp5 op.1 op.2
    have hT7 : ∀ T ∈ Ts, Tab.Ok T ∧ T.size ≤ 7 := fun T hT => ⟨hok T hT, (hbb T.size (hmap ▸ List.mem_map_of_mem hT)).2⟩
    have hTok : TsOk Ts := fun T hT => ⟨hok T hT, Nat.le_trans (hT7 T hT).2 (by decide)⟩
    have hTl : Ts.length ≤ 3 := by
      have := congrArg List.length hmap
      rw [List.length_map] at this
      omega
    -- the numbers
    refine ⟨_, rfl, d, c, 5, rfl, hs6, by omega, by omega, fun r5 H7 hr5 sm7 hs7 => ⟨_, rfl, by omega, by omega, fun D hD => ?_⟩⟩
    rw [Int.toNat_natCast]
    have oD := hs7.off hD
    have hp7 := sm7 _ _ hp6 op.1 op.2
    have hW7 : Wd H7 wa left Ts := hW.keep (sm7.tupK hs6) (fun o e => sm7 _ _ e ow.1 ow.2)
    refine lc_it walk_range (fun i H' => SmX d c H7 H' ∧ Src H' d c ∧ ∃ zs, H' D = some (.lst (natV zs)) ∧ zs.length = i ∧ ∀ z ∈ zs, 1 ≤ z ∧ z ≤ 50) ⟨.same (same_new hD), hs7.same (same_new hD), [], upd_same, rfl, fun z hz => absurd hz (List.not_mem_nil)⟩ (fun _ _ _ _ => trivial) (fun i x H8 H9 hi h y => ?_) (fun H8 h => ?_)
    · obtain ⟨sm, hs, zs, hzs, hzl, hz⟩ := h
      obtain ⟨rfl, rfl⟩ := y
      refine ⟨rfl, yes_go ?_⟩
      refine ⟨_, rfl, _, rfl, le_line (by simp), fun l2 hl2 => ?_⟩
      have ol2 := hs.off hl2
      refine ⟨d, c, l2, _, rfl, hs.same (same_new hl2), ol2.1, ol2.2, upd_same, by simp, by simp, fun r2 v2 H10 hv2 sm10 hs10 => ?_⟩
      obtain ⟨m, _, hm, rfl⟩ := nat_at (zs := [8, 24, 50]) hv2
      have hm2 : 1 ≤ m ∧ m ≤ 50 := by
        simp at hm
        omega
      have sm10' := (SmX.same (d := d) (c := c) (same_new (o := .lst [.int 8, .int 24, .int 50]) hl2)).trans sm10
      refine ⟨d, c, m, rfl, hs10, hm2.1, by omega, fun r3 H11 hr3 sm11 hs11 => ⟨_, _, rfl, rfl, natV zs, (sm10'.trans sm11) _ _ hzs oD.1 oD.2, ?_, ((sm.trans sm10').trans sm11).wr hD, hs11.wr oD.1 oD.2, zs ++ [1 + r3], ?_, by rw [List.length_append, hzl]; rfl, fun z hz' => ?_⟩⟩
      · rw [natV_len, hzl]
        exact lt_line (by omega)
      · rw [upd_same]
        unfold natV
        rw [List.map_append]
        show some (HO.lst (_ ++ [V.int ((1 : Int) + ((r3 : Nat) : Int))])) = some (HO.lst (_ ++ [V.int ((1 + r3 : Nat) : Int)]))
        rw [show (1 : Int) + ((r3 : Nat) : Int) = ((1 + r3 : Nat) : Int) by omega]
      · rcases List.mem_append.mp hz' with q | q
        · exact hz z q
        · rw [List.mem_singleton.mp q]
          omega
    obtain ⟨sm8, hs8, zs, hzs, hzl, hz⟩ := h
    have hp8 := sm8 _ _ hp7 op.1 op.2
    have hW8 : Wd H8 wa left Ts := hW7.keep (sm8.tupK hs7) (fun o e => sm8 _ _ e ow.1 ow.2)
    refine ⟨_, rfl, _, rfl, _, rfl, D, _, rfl, SqL.of hzs, fun g1 hg1 => ?_⟩
    refine ⟨_, _, _, _, rfl, rfl, same_new hg1 _ _ hzs, upd_same, ?_, fun nn hnn => ?_⟩
    · have := cutV_length (natV zs) none (some 1)
      rw [natV_len] at this ⊢
      exact le_line (by omega)
    have k8 : Same H8 (upd (upd H8 g1 (.lst (cutV (natV zs) none (some 1)))) nn (.lst (natV zs ++ cutV (natV zs) none (some 1)))) := (same_new hg1).trans (same_new hnn)
    have hn0 : upd (upd H8 g1 (.lst (cutV (natV zs) none (some 1)))) nn (.lst (natV zs ++ cutV (natV zs) none (some 1))) nn = some (.lst (natV (zs ++ zs.take 1))) := by
      rw [upd_same, show cutV (natV zs) none (some 1) = (natV zs).take 1 from cut_take (natV zs) 1, take_more]
    have hs0 := hs8.same k8
    have hp0 := k8 _ _ hp8
    have hW0 := hW8.same k8
    clear hW8 hW7 hW hp8 hp7 hp6 hp5 hp4 hp3
    generalize upd (upd H8 g1 (.lst (cutV (natV zs) none (some 1)))) nn (.lst (natV zs ++ cutV (natV zs) none (some 1))) = H0 at hn0 hs0 hp0 hW0 ⊢
    obtain ⟨nums, eN⟩ : ∃ nums, nums = zs ++ zs.take 1 := ⟨_, rfl⟩
    have hnl : nums.length ≤ 10 := by
      rw [eN, List.length_append, List.length_take]
      omega
    have hnums : ∀ n ∈ nums, 1 ≤ n ∧ n ≤ 50 := fun n hn => by
      rw [eN] at hn
      rcases List.mem_append.mp hn with q | q
      · exact hz n q
      · exact hz n (List.mem_of_mem_take q)
    rw [← eN] at hn0
    clear sm8 sm7 sm6 sm4 sm3 hs3 hs4 hs5 hs6 hs7 hs8 hs2 hg1 hnn k8 hzs hD
    -- the pairs
    refine ⟨_, rfl, nn, rfl, ⟨_, SqL.of hn0⟩, fun D5 hD5 => ?_⟩
    refine lc_it (walk_list (xs := natV nums)) (fun i H' => Same H0 H' ∧ ∃ ps, H' D5 = some (.lst ps) ∧ PairsAt H' left Ts (nums.take i) ps) ⟨same_new hD5, [], upd_same, by rw [List.take_zero]; exact ⟨rfl, fun i n e => by cases e⟩⟩ (fun i H' _ h => SqL.of (h.1 _ _ hn0)) (fun i x H9 H10 hi h y => ?_) (fun H9 h => ?_)
    · obtain ⟨s9, ps, hps, hPA⟩ := h
      obtain ⟨rfl, hx⟩ := y
      obtain ⟨n, hni, hnm, rfl⟩ := nat_at hx
      have hn := hnums n hnm
      refine ⟨rfl, yes_go ?_⟩
      refine ⟨_, rfl, _, rfl, _, rfl, wa, left, Ts, n, rfl, hW0.same s9, hTok, hn.1, by omega, fun v' H11 s11 hv' => ⟨le_line (by simp), fun t' ht' => ?_⟩⟩
      have k := fun o => same_new (o := o) ht'
      have sA := s11.trans (k (.tup [.int (n : Nat), v']))
      refine ⟨ps, sA _ _ hps, ?_, same_wr (s9.trans sA) hD5, ps ++ [.ref t'], upd_same, ?_⟩
      · rw [hPA.1, List.length_take]
        exact lt_line (by omega)
      · have kW := (NL.wr (us := ps) (o := .lst (ps ++ [.ref t'])) (sA _ _ hps)).tupK
        exact pairs_snoc ((hPA.keep (Same.tupK sA)).keep kW) hni (kW _ _ upd_same) ((hv'.same (k _)).keep kW)
    obtain ⟨s9, ps, hps, hPA⟩ := h
    rw [natV_len, List.take_length] at hPA
    refine ⟨le_line (by simp), fun u0 hu0 => ⟨le_line (by simp), fun t5 ht5 => ?_⟩⟩
    refine ⟨t5, _, rfl, SqT.of upd_same, rfl, _, _, rfl, _, [], rfl, rfl, ?_⟩
    have k9 : Same H9 (upd (upd H9 u0 (.lst [])) t5 (.tup [.ref D5, .ref u0])) := (same_new hu0).trans (same_new ht5)
    have sB := s9.trans k9
    have hu1 : upd (upd H9 u0 (.lst [])) t5 (.tup [.ref D5, .ref u0]) u0 = some (.lst []) := same_new ht5 _ _ upd_same
    have hps1 := k9 _ _ hps
    have hPA1 := hPA.keep (Same.tupK k9)
    have hs1 := hs0.same sB
    have hn1 := sB _ _ hn0
    have hp1 := sB _ _ hp0
    have hW1 := hW0.same sB
    clear k9 ht5
    generalize upd (upd H9 u0 (.lst [])) t5 (.tup [.ref D5, .ref u0]) = Ha at hu1 hps1 hPA1 hs1 hn1 hp1 hW1 sB ⊢
    clear hPA hps s9 hu0 H9 hW0 hp0 hn0 hs0 sB
    -- the entries used
    refine ⟨_, rfl, nn, rfl, ⟨_, SqL.of hn1⟩, ?_⟩
    refine for_it (walk_list (xs := natV nums)) (fun i σ H' => ∃ (y2 y7 y10 y11 y12 y13 y14 y15 y16 y17 y18 : Option V) (ua : Addr) (us : List V) (U : List (Nat × Nat)), σ = [some (.ref a), some (.ref d), y2, some (.ref p), some (.str (sideS left)), some (.ref wa), some (.ref nn), y7, some (.ref D5), some (.ref ua), y10, y11, y12, y13, y14, y15, y16, y17, y18] ∧
      Same Ha H' ∧ H' ua = some (.lst us) ∧ PrV H' us U ∧ (∀ k m, (k, m) ∈ U ↔ ∃ n ∈ nums.take i, usesK Ts n k m) ∧ U.length ≤ 6 * i) ⟨_, _, _, _, _, _, _, _, _, _, _, u0, [], [], rfl, fun _ _ z => z, hu1, .nil, fun k m => ⟨fun z => absurd z (List.not_mem_nil), fun ⟨n, hn, _⟩ => by simp at hn⟩, Nat.le_refl _⟩ (fun i σ H' _ h => ?_) (fun i x σ H9 H10 hi h y => ?_) (fun σ Hb h => ?_)
    · obtain ⟨_, _, _, _, _, _, _, _, _, _, _, _, _, _, _, sm, _⟩ := h
      exact SqL.of (sm _ _ hn1)
    · obtain ⟨y2, y7, y10, y11, y12, y13, y14, y15, y16, y17, y18, ua, us, U, rfl, sm, hua, hU, hmem, hUl⟩ := h
      obtain ⟨rfl, hx⟩ := y
      obtain ⟨n, hni, hnm, rfl⟩ := nat_at hx
      have hn := hnums n hnm
      rw [natV_len] at hi
      refine ⟨_, rfl, _, rfl, _, rfl, p, Ts, n, rfl, sm _ _ hp1, hTok, hTl, hn.1, by omega, fun q us' U' H11 s11 nq hq hP hm hl => ⟨_, _, _, _, rfl, rfl, s11 _ _ hua, hq, ?_, fun ua' hua' => ?_⟩⟩
      · have := hU.len
        have := hP.len
        exact le_line (by omega)
      · have k := fun o => same_new (o := o) hua'
        refine ⟨_, _, _, _, _, _, _, _, _, _, _, ua', us ++ us', U ++ U', rfl, sm.trans (s11.trans (k _)), upd_same, (hU.same (s11.trans (k _))).append (hP.same (k _)), fun k' m => ?_, by rw [List.length_append]; omega⟩
        rw [List.mem_append, hmem, hm, take_succ' hni]
        constructor
        · rintro (⟨n', h1, h2⟩ | h2)
          · exact ⟨n', List.mem_append_left _ h1, h2⟩
          · exact ⟨n, List.mem_append_right _ (List.mem_singleton.mpr rfl), h2⟩
        · rintro ⟨n', h1, h2⟩
          rcases List.mem_append.mp h1 with h1 | h1
          · exact .inl ⟨n', h1, h2⟩
          · rw [List.mem_singleton.mp h1] at h2
            exact .inr h2
    obtain ⟨y2, y7, y10, y11, y12, y13, y14, y15, y16, y17, y18, ua, us, U, rfl, smb, hua, hU, hmem, hUl⟩ := h
    rw [natV_len, List.take_length] at hmem
    rw [natV_len] at hUl
    -- due = []
    refine ⟨le_line (by simp), fun da hda => ?_⟩
    have hps2 := smb _ _ hps1
    have hPA2 := hPA1.keep (Same.tupK smb)
    have hs2 := hs1.same smb
    have hp2 := smb _ _ hp1
    have hW2 := hW1.same smb
    clear hps1 hPA1 hs1 hp1 hW1 hn1 smb hu1
    have eT : (((tsz Ts).length : Nat) : Int).toNat = Ts.length := by
      rw [tsz_len, Int.toNat_natCast]
    refine ⟨_, rfl, p, _, rfl, .inl (SqL.of (same_new hda _ _ hp2)), _, rfl, by omega, by rw [tsz_len]; omega, ?_⟩
    refine for_range (lo := 0) (n := _) (fun i σ H' => ∃ (y2 y7 y11 y12 y13 y14 y15 y16 y17 y18 : Option V) (rows : List V), σ = [some (.ref a), some (.ref d), y2, some (.ref p), some (.str (sideS left)), some (.ref wa), some (.ref nn), y7, some (.ref D5), some (.ref ua), some (.ref da), y11, y12, y13, y14, y15, y16, y17, y18] ∧
      Same Hb H' ∧ H' da = some (.lst rows) ∧ RowsTo Hb H' da Ts (Due Ts nums) i rows) ⟨_, _, _, _, _, _, _, _, _, _, [], rfl, same_new hda, upd_same, rfl, fun k T hk => absurd hk (Nat.not_lt_zero k)⟩ ?_ ?_
    · rintro i σ H3 hi ⟨y2, y7, y11, y12, y13, y14, y15, y16, y17, y18, rows, rfl, sm, hdr, hrows⟩
      rw [eT] at hi
      obtain ⟨T, eTi⟩ : ∃ T, Ts[i]? = some T := ⟨_, List.getElem?_eq_getElem hi⟩
      have hTT := hT7 T (mem_of_get eTi)
      have hz : (tsz Ts)[i]? = some (.int (T.size : Nat)) := by
        unfold tsz
        rw [List.getElem?_map, eTi]
        rfl
      have hat : atI (tsz Ts) ((0 : Int) + ((i : Nat) : Int)) = some (.int (T.size : Nat)) := by
        rw [Int.zero_add]
        exact atI_nat hz
      have hT6 : T.length ≤ 6 := by
        have := hTT.2
        unfold Tab.size at this
        omega
      -- entries
      refine ⟨_, rfl, _, rfl, p, _, _, _, rfl, rfl, SqL.of (sm _ _ hp2), hat, _, _, rfl, rfl, 2, _, rfl, ⟨by omega, by omega, by unfold Tab.size; omega, by unfold Tab.size; omega⟩, fun De hDe => ?_⟩
      have eN : (((T.size : Nat) : Int) + 1 - 2).toNat = T.length := by
        unfold Tab.size
        omega
      rw [eN]
      refine lc_it walk_range (fun j H' => Same H3 H' ∧ H' De = some (.lst (entL j))) ⟨same_new hDe, upd_same⟩ (fun _ _ _ _ => trivial) (fun j x H4 H5 hj h y => ?_) (fun H4 h => ?_)
      · obtain ⟨s4, hde⟩ := h
        obtain ⟨rfl, rfl⟩ := y
        refine ⟨rfl, yes_go ⟨_, rfl, _, hde, ?_, same_wr s4 hDe, ?_⟩⟩
        · rw [entL_len]
          exact lt_line (by omega)
        · rw [upd_same, entL_succ]
          show some (HO.lst (_ ++ [V.int ((2 : Int) + ((j : Nat) : Int))])) = _
          rw [show (2 : Int) + ((j : Nat) : Int) = ((j + 2 : Nat) : Int) by omega]
      obtain ⟨s4, hde⟩ := h
      -- due.append([..])
      have sm4 := sm.trans s4
      refine ⟨_, rfl, .inl ⟨rfl, _, .inl (.inl (s4 _ _ hdr))⟩, _, rfl, De, rfl, ⟨_, SqL.of hde⟩, fun R hR => ?_⟩
      obtain ⟨tb, vs, f1, f2, f3, f4⟩ := hW2.same sm4
      obtain ⟨v0, g1', a0, us0, rfl, g2', g3'⟩ := f4 i T eTi
      refine lc_it (walk_list (xs := entL T.length)) (fun j H' => Same H4 H' ∧ ∃ us', H' R = some (.lst us') ∧ RowTo H' T (Due Ts nums i) j us') ⟨same_new hR, [], upd_same, rfl, fun j hj => absurd hj (Nat.not_lt_zero j)⟩ (fun j H' _ h => SqL.of (h.1 _ _ hde)) (fun j x H5 H6 hj h y => ?_) (fun H5 h => ?_)
      · obtain ⟨s5, us', hus', hrow⟩ := h
        obtain ⟨rfl, hx⟩ := y
        obtain ⟨hjT, rfl⟩ := entL_get hx
        obtain ⟨s0, es0⟩ : ∃ s0, T[j]? = some s0 := ⟨_, List.getElem?_eq_getElem hjT⟩
        obtain ⟨u, hu1, hu2⟩ := g3'.get es0
        have hlt : us'.length < sizeLine := by
          rw [hrow.1]
          exact lt_line (by omega)
        have ej : ((j + 2 : Nat) : Int) - 2 = ((j : Nat) : Int) := by omega
        refine ⟨rfl, yes_go ?_⟩
        refine ⟨_, rfl, rfl, _, rfl, ?_⟩
        by_cases hj0 : j = 0
        · rw [show decide (V.int ((j + 2 : Nat) : Int) = V.int 2) = true from decide_eq_true (by rw [hj0]; rfl)]
          have kW : NL _ (upd _ R (.lst (us' ++ [u]))) := NL.wr hus'
          refine iteT ⟨_, rfl, wa, _, rfl, DGet.k (k := kTables) (s5 _ _ f1), _, rfl, tb, vs, _, .ref a0, rfl, rfl, SqT.of (s5 _ _ f2), by rw [Int.zero_add]; exact atI_nat g1', _, rfl, _, _, rfl, rfl, a0, us0, _, u, rfl, rfl, SqT.of (s5 _ _ g2'), ?_, us', hus', hlt, same_wr s5 hR, _, upd_same, ?_⟩
          · show atI us0 (((j + 2 : Nat) : Int) - 2) = _
            rw [ej]
            exact atI_nat hu1
          · refine (hrow.keep kW.tupK).snoc (.inl ⟨.inl (by omega), ?_⟩)
            rw [entry_get es0]
            exact (hu2.same s5).keep kW.tupK
        · rw [show decide (V.int ((j + 2 : Nat) : Int) = V.int 2) = false from decide_eq_false (fun z => by have := V.int.inj z; omega)]
          refine iteF ⟨_, rfl, _, rfl, le_line (by simp), fun tt htt => ?_⟩
          have kt := fun o => same_new (o := o) htt
          have s6 := s5.trans (kt (.tup [.int ((0 : Int) + ((i : Nat) : Int)), .int ((j + 2 : Nat) : Int)]))
          have hU6 := hU.same (sm4.trans s6)
          have e0 : ((0 : Int) + ((i : Nat) : Int)) = ((i : Nat) : Int) := Int.zero_add _
          have hd6 : Dp K (upd H6 tt (.tup [.int ((0 : Int) + ((i : Nat) : Int)), .int ((j + 2 : Nat) : Int)])) (.ref tt) (prD (i, j + 2)) := by
            rw [e0]
            exact .tup (SqT.of upd_same) (.cons (.int _) (.cons (.int _) .nil))
          refine ⟨_, rfl, prD (i, j + 2), U.map prD, hd6, dp_list ((sm4.trans s6) _ _ hua) (prv_dp hU6), prD_shaped _, prDs_shaped _, _, rfl, ?_⟩
          rw [prD_any]
          have hus6 := kt (.tup [.int ((0 : Int) + ((i : Nat) : Int)), .int ((j + 2 : Nat) : Int)]) _ _ hus'
          by_cases hin : (i, j + 2) ∈ U
          · rw [decide_eq_true hin]
            have kW : NL _ (upd _ R (.lst (us' ++ [u]))) := NL.wr hus6
            refine iteT ⟨_, rfl, wa, _, rfl, DGet.k (k := kTables) (s6 _ _ f1), _, rfl, tb, vs, _, .ref a0, rfl, rfl, SqT.of (s6 _ _ f2), by rw [Int.zero_add]; exact atI_nat g1', _, rfl, _, _, rfl, rfl, a0, us0, _, u, rfl, rfl, SqT.of (s6 _ _ g2'), ?_, us', hus6, hlt, same_wr s6 hR, _, upd_same, ?_⟩
            · show atI us0 (((j + 2 : Nat) : Int) - 2) = _
              rw [ej]
              exact atI_nat hu1
            · refine (((hrow.keep (Same.tupK (kt _))).keep kW.tupK)).snoc (.inl ⟨.inr ((hmem _ _).mp hin), ?_⟩)
              rw [entry_get es0]
              exact (hu2.same s6).keep kW.tupK
          · rw [decide_eq_false hin]
            have kW : NL _ (upd _ R (.lst (us' ++ [.non]))) := NL.wr hus6
            refine iteF ⟨us', hus6, hlt, same_wr s6 hR, _, upd_same, ?_⟩
            refine (((hrow.keep (Same.tupK (kt _))).keep kW.tupK)).snoc (.inr ⟨fun z => ?_, rfl⟩)
            rcases z with z | z
            · omega
            · exact hin ((hmem _ _).mpr z)
      obtain ⟨s5, us', hus', hrow⟩ := h
      rw [entL_len] at hrow
      have sm5 := sm4.trans s5
      have hdr5 := (s4.trans s5) _ _ hdr
      have nRd : R ≠ da := (ne_of_none (s4 _ _ hdr) hR).symm
      have kW : NL H5 (upd H5 da (.lst (rows ++ [.ref R]))) := NL.wr hdr5
      refine ⟨da, rows, .ref R, rfl, rfl, hdr5, ?_, ?_⟩
      · rw [hrows.1]
        exact lt_line (by omega)
      · refine ⟨_, _, _, _, _, _, _, _, _, _, rows ++ [.ref R], rfl, same_wr sm5 hda, upd_same, ?_⟩
        exact (((hrows.same (s4.trans s5)).wr kW.tupK fun b us hb e => by rw [upd_ne hb]; exact e).snoc eTi (Same.free sm4 hR) nRd (by rw [upd_ne nRd]; exact hus') (hrow.keep kW.tupK))
    rintro σ Hd ⟨y2, y7, y11, y12, y13, y14, y15, y16, y17, y18, due, rfl, smd, hdue, hdr⟩
    rw [eT] at hdr
    clear hU hmem hUl hua hda
    have hps3 := smd _ _ hps2
    have hPA3 := hPA2.keep (Same.tupK smd)
    have hs3 := hs2.same smd
    have hp3 := smd _ _ hp2
    -- the two givings
    refine ⟨_, rfl, _, rfl, le_line (by simp), fun t1 ht1 => ⟨_, rfl, D5, ps, rfl, .inl ⟨SqL.of (same_new ht1 _ _ hps3), fun q1 hq1 => ?_⟩⟩⟩
    have k1 := same_new (o := .tup [.ref D5, .ref p]) ht1
    have k2 := same_new (o := .tup ps) hq1
    refine ⟨_, rfl, p, tsz Ts, rfl, .inl ⟨SqL.of ((k1.trans k2) _ _ hp3), fun q2 hq2 => ⟨le_line (by simp), fun t2 ht2 => ⟨le_line (by simp), fun L hL => ?_⟩⟩⟩⟩
    have k3 := same_new (o := .tup (tsz Ts)) hq2
    have k4 := same_new (o := .tup [.ref q1, .ref q2]) ht2
    have k5 := same_new (o := .lst [.ref t1, .ref t2]) hL
    have sE : Same Hd (upd (upd (upd (upd (upd Hd t1 (.tup [.ref D5, .ref p])) q1 (.tup ps)) q2 (.tup (tsz Ts))) t2 (.tup [.ref q1, .ref q2])) L (.lst [.ref t1, .ref t2])) := k1.trans (k2.trans (k3.trans (k4.trans k5)))
    have ft1 := (k2.trans (k3.trans (k4.trans k5))) t1 _ upd_same
    have ft2 := k5 t2 _ upd_same
    have fq1 := (k3.trans (k4.trans k5)) q1 _ upd_same
    have fq2 := (k4.trans k5) q2 _ upd_same
    have fL : upd (upd (upd (upd (upd Hd t1 (.tup [.ref D5, .ref p])) q1 (.tup ps)) q2 (.tup (tsz Ts))) t2 (.tup [.ref q1, .ref q2])) L (.lst [.ref t1, .ref t2]) L = some (.lst [.ref t1, .ref t2]) := upd_same
    clear k1 k2 k3 k4 k5 ht1 hq1 hq2 ht2 hL
    generalize upd (upd (upd (upd (upd Hd t1 (.tup [.ref D5, .ref p])) q1 (.tup ps)) q2 (.tup (tsz Ts))) t2 (.tup [.ref q1, .ref q2])) L (.lst [.ref t1, .ref t2]) = He at sE ft1 ft2 fq1 fq2 fL ⊢
    have hps4 := sE _ _ hps3
    have hPA4 := hPA3.keep (Same.tupK sE)
    have hs4 := hs3.same sE
    have hp4 := sE _ _ hp3
    have hdue4 := sE _ _ hdue
    have hdr4 := hdr.same sE
    clear hps3 hPA3 hs3 hp3 hps2 hPA2 hs2 hp2 hW2 sE hdr hdue smd
    have both : ∀ (i : Nat) x, ([V.ref t1, V.ref t2] : List V)[i]? = some x → ∃ tt g1 s1, x = .ref tt ∧ He tt = some (.tup [.ref g1, .ref s1]) ∧ Sq2 He g1 ps ∧ Sq2 He s1 (tsz Ts) := fun i x e => by
      match i, e with
      | 0, e => exact ⟨t1, D5, p, (Option.some.inj e).symm, ft1, .inl hps4, .inl hp4⟩
      | 1, e => exact ⟨t2, q1, q2, (Option.some.inj e).symm, ft2, .inr fq1, .inr fq2⟩
      | i + 2, e => simp at e
    have nice := all_nice (S := Due Ts nums) hTl hT7
    refine ⟨L, rfl, ⟨_, SqL.of fL⟩, ?_⟩
    refine for_it (walk_list (xs := [.ref t1, .ref t2])) (fun _ σ H' => ∃ (y2 y7 y11 y12 y13 y14 y15 y16 y17 y18 : Option V), σ = [some (.ref a), some (.ref d), y2, some (.ref p), some (.str (sideS left)), some (.ref wa), some (.ref nn), y7, some (.ref D5), some (.ref ua), some (.ref da), y11, y12, y13, y14, y15, y16, y17, y18] ∧ Same He H')
      ⟨_, _, _, _, _, _, _, _, _, _, rfl, fun _ _ z => z⟩ (fun i σ H' _ h => ?_) (fun i x σ H3 H4 hi h y => ?_) (fun σ Hf h => ?_)
    · obtain ⟨_, _, _, _, _, _, _, _, _, _, _, sm⟩ := h
      exact SqL.of (sm _ _ fL)
    · obtain ⟨y2, y7, y11, y12, y13, y14, y15, y16, y17, y18, rfl, sm⟩ := h
      obtain ⟨rfl, hx⟩ := y
      obtain ⟨tt, gv, sv, rfl, ftt, hG, hS⟩ := both i x hx
      refine ⟨tt, _, rfl, SqT.of (sm _ _ ftt), rfl, _, _, rfl, _, [], rfl, rfl, ?_⟩
      refine ⟨_, rfl, _, rfl, _, rfl, sv, gv, left, Ts, nums, ps, rfl, hS.same sm, hTok, by omega, hG.same sm, (fun n hn => ⟨(hnums n hn).1, Nat.le_trans (hnums n hn).2 (by decide)⟩), by omega, hPA4.keep (Same.tupK sm), fun pt rows H5 s5 npt hpt hrows => ?_⟩
      have sm5 := sm.trans s5
      have npt0 := Same.free sm npt
      -- the same text
      refine ⟨_, rfl, pt, .list (allD Ts (Due Ts nums)), rfl, dp_list hpt (rows_dp hrows), nice.shw, nice.dic, Nat.le_trans nice.dep (by decide), Nat.le_trans nice.len (by decide), _, rfl, da, .list (allD Ts (Due Ts nums)), rfl, dp_list (sm5 _ _ hdue4) (rows_dp (hdr4.same sm5)), nice.shw, nice.dic, Nat.le_trans nice.dep (by decide), Nat.le_trans nice.len (by decide), rfl, _, rfl, ?_⟩
      rw [decide_eq_true rfl]
      refine iteF ?_
      -- told.append(None)
      refine ⟨_, rfl, .inl ⟨rfl, _, .inl (.inl hpt)⟩, pt, rows, .non, rfl, rfl, hpt, ?_, ?_⟩
      · rw [hrows.1]
        exact lt_line (by omega)
      have sm6 : Same He (upd H5 pt (.lst (rows ++ [.non]))) := same_wr sm5 npt0
      refine ⟨_, rfl, _, rfl, _, rfl, pt, _, rfl, SqL.of upd_same, fun L2 hL2 => ?_⟩
      have k7 := fun o => same_new (o := o) hL2
      have hne : ∀ r us, upd H5 pt (.lst (rows ++ [.non])) r = some (.lst us) → r ≠ L2 := fun r us e => ne_of_none e hL2
      have hpt6 : ∀ r us, r ≠ pt → H5 r = some (.lst us) → upd H5 pt (.lst (rows ++ [.non])) r = some (.lst us) := fun r us h1 e => by
        rw [upd_ne h1]
        exact e
      have hL7 : ∀ ys, upd (upd H5 pt (.lst (rows ++ [.non]))) L2 (.lst ys) L2 = some (.lst ys) := fun ys => upd_same
      have sm7 : ∀ ys, Same He (upd (upd H5 pt (.lst (rows ++ [.non]))) L2 (.lst ys)) := fun ys => sm6.trans (k7 _)
      have start : ∀ x ∈ rows, ∃ r us, x = .ref r ∧ He r = none ∧ r ≠ L2 ∧ upd H5 pt (.lst (rows ++ [.non])) r = some (.lst us) ∧ us.length ≤ 100 := fun x hx => by
        obtain ⟨k, hk⟩ := List.mem_iff_getElem?.mp hx
        have hkl := (List.getElem?_eq_some_iff.mp hk).1
        rw [hrows.1] at hkl
        obtain ⟨r, us, e1, e2, e3, e4, e5⟩ := hrows.2 k _ hkl (List.getElem?_eq_getElem hkl)
        rw [hk] at e1
        cases e1
        have h7 := (hT7 _ (List.getElem_mem hkl)).2
        refine ⟨r, us, rfl, Same.free sm e2, hne r us (hpt6 r us e3 e4), hpt6 r us e3 e4, ?_⟩
        rw [e5.1]
        unfold Tab.size at h7
        omega
      have hlast : ∀ i : Int, i = -1 → cutV (rows ++ [V.non]) none (some i) = rows := fun i e => by
        rw [e]
        exact cut_last rows .non
      refine ⟨L2, rfl, ⟨rows, SqL.of (by rw [hL7, hlast _ rfl])⟩, ?_⟩
      refine for_it (walk_list (xs := rows)) (fun j σ H' => ∃ (y12 : Option V), σ = [some (.ref a), some (.ref d), y2, some (.ref p), some (.str (sideS left)), some (.ref wa), some (.ref nn), y7, some (.ref D5), some (.ref ua), some (.ref da), y11, y12, some (.ref gv), some (.ref sv), some (.ref pt), y16, y17, y18] ∧ Same He H' ∧ H' L2 = some (.lst rows) ∧
        ∀ x ∈ rows, ∃ r us, x = .ref r ∧ He r = none ∧ r ≠ L2 ∧ H' r = some (.lst us) ∧ us.length ≤ 100 + j) ⟨_, rfl, sm7 _, by rw [hL7, hlast _ rfl], fun x hx => ?_⟩ (fun j σ H' _ h => ?_) (fun j x σ H7 H8 hj h y => ?_) (fun σ H' h => ?_)
      · obtain ⟨r, us, e1, e2, e3, e4, e5⟩ := start x hx
        exact ⟨r, us, e1, e2, e3, by rw [upd_ne e3]; exact e4, by omega⟩
      · obtain ⟨_, _, _, e, _⟩ := h
        exact SqL.of e
      · obtain ⟨y12', rfl, s7, hl7, hr7⟩ := h
        obtain ⟨rfl, hx⟩ := y
        obtain ⟨r, us, rfl, e2, e3, e4, e5⟩ := hr7 x (List.mem_of_getElem? hx)
        rw [hrows.1] at hj
        refine ⟨_, rfl, .inl ⟨rfl, _, .inl (.inl e4)⟩, r, us, .non, rfl, rfl, e4, lt_line (by omega), _, rfl, same_wr s7 e2, by rw [upd_ne e3.symm]; exact hl7, fun x' hx' => ?_⟩
        obtain ⟨r', us', f1, f2, f3, f4, f5⟩ := hr7 x' hx'
        by_cases er : r' = r
        · subst er
          exact ⟨r', us ++ [.non], f1, f2, f3, upd_same, by rw [List.length_append, List.length_singleton]; omega⟩
        · exact ⟨r', us', f1, f2, f3, by rw [upd_ne er]; exact f4, by omega⟩
      · obtain ⟨y12', rfl, s7, _⟩ := h
        exact ⟨_, _, _, _, _, _, _, _, _, _, rfl, s7⟩
    obtain ⟨y2, y7, y11, y12, y13, y14, y15, y16, y17, y18, rfl, smf⟩ := h
    -- fits_shape
    refine ⟨_, rfl, D5, rfl, ⟨_, SqL.of (smf _ _ hps4)⟩, fun R hR => ?_⟩
    refine lc_it (walk_list (xs := ps)) (fun _ H' => Same Hf H' ∧ H' R = some (.lst [])) ⟨same_new hR, upd_same⟩ (fun j H' _ h => SqL.of (h.1 _ _ (smf _ _ hps4))) (fun j x H5 H6 hj h y => ?_) (fun H5 h => ?_)
    · obtain ⟨s5, hR5⟩ := h
      obtain ⟨rfl, hx⟩ := y
      have hjn : j < nums.length := by
        rw [← hPA4.1]
        exact hj
      obtain ⟨t', v', e1, e2, e3⟩ := hPA4.2 j _ (List.getElem?_eq_getElem hjn)
      have hx' : ps[j]? = some x := hx
      rw [e1] at hx'
      cases hx'
      have s6 := smf.trans s5
      have hn := hnums _ (List.getElem_mem hjn)
      refine ⟨rfl, ?_⟩
      refine ⟨_, rfl, _, rfl, _, rfl, t', _, 0, _, rfl, rfl, SqT.of (s6 _ _ e2), atI_nat (j := 0) rfl, _, rfl, t', _, 1, _, rfl, rfl, SqT.of (s6 _ _ e2), atI_nat (j := 1) rfl, p, left, v', Ts, nums[j], rfl, .inl (s6 _ _ hp4), hTok, by omega, hn.1, by omega, e3.same s6, fun H8 s8 => ⟨true, true, rfl, rfl, _, rfl, ?_⟩⟩
      exact iteF ⟨s5.trans s8, s8 _ _ hR5⟩
    obtain ⟨s5, hR5⟩ := h
    refine ⟨le_line (by simp), fun e he => ?_⟩
    have k8 := same_new (o := .lst []) he
    refine ⟨.list [], .list [], dp_list (ds := []) (k8 _ _ hR5) .nil, dp_list (ds := []) upd_same .nil, by decide, by decide, _, rfl, ?_⟩
    rw [show PyData.eqv (.list []) (.list []) = true from by simp [PyData.eqv, PyData.eqvAll]]
    exact iteF ⟨⟨_, _, _, _, _, _, _, _, _, _, _, _, _, _, _, _, _, rfl⟩, hs4.same (smf.trans (s5.trans k8))⟩
  · rintro σ H2 ⟨⟨y2, y3, y4, y5, y6, y7, y8, y9, y10, y11, y12, y13, y14, y15, y16, y17, y18, rfl⟩, _⟩
    -- entries_told([], 'left', []) == []
    refine ⟨le_line (by simp), fun l1 hl1 => ⟨le_line (by simp), fun l2 hl2 => ?_⟩⟩
    refine ⟨l1, l2, true, [], [], [], rfl, .inl (same_new hl2 _ _ upd_same), (fun T hT => absurd hT (List.not_mem_nil)), by simp, .inl upd_same, (fun n hn => absurd hn (List.not_mem_nil)), by simp, ⟨rfl, fun i n e => by cases e⟩, fun p rows H3 _ _ hp hrows => ?_⟩
    have er : rows = [] := List.eq_nil_of_length_eq_zero hrows.1
    subst er
    refine ⟨le_line (by simp), fun e he => ?_⟩
    refine ⟨.list [], .list [], dp_list (ds := []) (same_new he _ _ hp) .nil, dp_list (ds := []) upd_same .nil, by decide, by decide, ?_⟩
    rw [show PyData.eqv (.list []) (.list []) = true from by simp [PyData.eqv, PyData.eqvAll]]
    refine ⟨true, rfl, iteT ?_⟩
    -- entries_told([3], 'right', []) == [[((), ()), None]]
    refine ⟨le_line (by simp), fun l3 hl3 => ⟨le_line (by simp), fun l4 hl4 => ?_⟩⟩
    refine ⟨l3, l4, false, [tab3], [], [], rfl, .inl (same_new hl4 _ _ upd_same), (fun T hT => by rw [List.mem_singleton.mp hT]; exact ⟨tab3_ok, by decide⟩), by simp, .inl upd_same, (fun n hn => absurd hn (List.not_mem_nil)), by simp, ⟨rfl, fun i n e => by cases e⟩, fun p3 rows3 H4 _ _ hp3 hrows3 => ?_⟩
    refine ⟨le_line (by simp), fun e1 he1 => ⟨le_line (by simp), fun e2 he2 => ⟨le_line (by simp), fun e3 he3 => ⟨le_line (by simp), fun e4 he4 => ⟨le_line (by simp), fun e5 he5 => ?_⟩⟩⟩⟩⟩
    have k1 := fun o => same_new (o := o) he1
    have k2 := fun o => same_new (o := o) he2
    have k3 := fun o => same_new (o := o) he3
    have k4 := fun o => same_new (o := o) he4
    have k5 := fun o => same_new (o := o) he5
    have sE := (k1 (.tup [])).trans ((k2 (.tup [])).trans ((k3 (.tup [.ref e1, .ref e2])).trans ((k4 (.lst [.ref e3, .non])).trans (k5 (.lst [.ref e4])))))
    have eD : allD [tab3] (Due [tab3] []) = [.list [.tuple [.tuple [], .tuple []], .none]] := by
      have d2 : Due [tab3] [] 0 2 := .inl rfl
      have d3 : ¬ Due [tab3] [] 0 3 := fun z => z.elim (fun q => by cases q) fun ⟨n, hn, _⟩ => absurd hn (List.not_mem_nil)
      show [PyData.list [entD tab3 (Due [tab3] [] 0) 0, entD tab3 (Due [tab3] [] 0) 1]] = _
      unfold entD
      rw [if_pos d2, if_neg d3]
      rfl
    have h3 : ShV (upd (upd (upd H4 e1 (.tup [])) e2 (.tup [])) e3 (.tup [.ref e1, .ref e2])) (.p .o .o) (.ref e3) := ⟨e3, _, _, rfl, upd_same, ⟨e1, rfl, k3 _ _ _ (k2 _ _ _ upd_same)⟩, ⟨e2, rfl, k3 _ _ _ upd_same⟩⟩
    have h3' := h3.same ((k4 (.lst [.ref e3, .non])).trans (k5 (.lst [.ref e4])))
    refine ⟨.list (allD [tab3] (Due [tab3] [])), .list [.list [.tuple [.tuple [], .tuple []], .none]], dp_list (sE _ _ hp3) (rows_dp (hrows3.same sE)), dp_list upd_same (.cons (dp_list (k5 _ _ _ upd_same) (.cons h3'.dp (.cons .non .nil))) .nil), ?_, by decide, ?_⟩
    · rw [eD]
      decide
    · rw [eD, show PyData.eqv (.list [.list [.tuple [.tuple [], .tuple []], .none]]) (.list [.list [.tuple [.tuple [], .tuple []], .none]]) = true from by simp [PyData.eqv, PyData.eqvAll]]
end
end Lp
set_option Elab.async false
set_option linter.all false
set_option maxRecDepth 100000
set_option maxHeartbeats 8000000
namespace Lp
open PySem PySem.Spec PyProof.Rows L2 Sh
theorem mk_df {K : PySem.W.Frag} {mg : Str → Option Value} {h : Heap} {x : Str} {st : Stmt} {ps : List Str} {f : Addr} {oc : Value} {od an : Option Addr} {osl : Array (Option Value)} {kV doc pm cdv ct : Value} (X : K.In h) (G : h.Ns mainGlobals mg)
    (a : PySem.W.nsIn K mainGlobals x = some (some (.ref f))) (l : K.lookup f = some ⟨oc, od, .func (PySem.W.fnOf x x (defArgs st) (defBody st) (defScope st) .none kV doc pm an cdv ct), osl⟩) (c : PySem.W.codeIn K cdv x = true) (k : PySem.W.keepIn K (.ref f) = true)
    (b : ∀ (kV doc pm : Value) (an : Option Addr) (cdv ct : Value) (us : List Value), us.length = ps.length → bindArgs (PySem.W.fnOf x x (defArgs st) (defBody st) (defScope st) .none kV doc pm an cdv ct) { pos := us } = pure (ps.zip us)) :
    Df K mg x st ps f (PySem.W.fnOf x x (defArgs st) (defBody st) (defScope st) .none kV doc pm an cdv ct) :=
  ⟨fun_mk l c k, PySem.W.mg_of X G a, (fun_mk l c k).binds b⟩
theorem tx_mk {K : PySem.W.Frag} {mg : Str → Option Value} {h : Heap} {fa : Addr} (X : K.In h) (G : h.Ns mainGlobals mg) (hfa : mg "law" = some (.ref fa))
    {f0 f1 f2 f3 f4 f5 f6 f7 f8 f9 f10 f11 f12 f13 f14 f15 f16 f17 f18 f19 f20 f21 f22 f23 f24 f25 f26 f27 : Addr} {od0 an0 od1 an1 od2 an2 od3 an3 od4 an4 od5 an5 od6 an6 od7 an7 od8 an8 od9 an9 od10 an10 od11 an11 od12 an12 od13 an13 od14 an14 od15 an15 od16 an16 od17 an17 od18 an18 od19 an19 od20 an20 od21 an21 od22 an22 od23 an23 od24 an24 od25 an25 od26 an26 od27 an27 : Option Addr} {sl0 sl1 sl2 sl3 sl4 sl5 sl6 sl7 sl8 sl9 sl10 sl11 sl12 sl13 sl14 sl15 sl16 sl17 sl18 sl19 sl20 sl21 sl22 sl23 sl24 sl25 sl26 sl27 : Array (Option Value)} {oc0 kV0 dc0 pm0 cd0 ct0 oc1 kV1 dc1 pm1 cd1 ct1 oc2 kV2 dc2 pm2 cd2 ct2 oc3 kV3 dc3 pm3 cd3 ct3 oc4 kV4 dc4 pm4 cd4 ct4 oc5 kV5 dc5 pm5 cd5 ct5 oc6 kV6 dc6 pm6 cd6 ct6 oc7 kV7 dc7 pm7 cd7 ct7 oc8 kV8 dc8 pm8 cd8 ct8 oc9 kV9 dc9 pm9 cd9 ct9 oc10 kV10 dc10 pm10 cd10 ct10 oc11 kV11 dc11 pm11 cd11 ct11 oc12 kV12 dc12 pm12 cd12 ct12 oc13 kV13 dc13 pm13 cd13 ct13 oc14 kV14 dc14 pm14 cd14 ct14 oc15 kV15 dc15 pm15 cd15 ct15 oc16 kV16 dc16 pm16 cd16 ct16 oc17 kV17 dc17 pm17 cd17 ct17 oc18 kV18 dc18 pm18 cd18 ct18 oc19 kV19 dc19 pm19 cd19 ct19 oc20 kV20 dc20 pm20 cd20 ct20 oc21 kV21 dc21 pm21 cd21 ct21 oc22 kV22 dc22 pm22 cd22 ct22 oc23 kV23 dc23 pm23 cd23 ct23 oc24 kV24 dc24 pm24 cd24 ct24 oc25 kV25 dc25 pm25 cd25 ct25 oc26 kV26 dc26 pm26 cd26 ct26 oc27 kV27 dc27 pm27 cd27 ct27 : Value}
    (a0 : PySem.W.nsIn K mainGlobals "wrong_shape" = some (some (.ref f0))) (l0 : K.lookup f0 = some ⟨oc0, od0, .func (PySem.W.fnOf "wrong_shape" "wrong_shape" (defArgs sWrong) (defBody sWrong) (defScope sWrong) .none kV0 dc0 pm0 an0 cd0 ct0), sl0⟩) (c0 : PySem.W.codeIn K cd0 "wrong_shape" = true) (k0 : PySem.W.keepIn K (.ref f0) = true)
    (a1 : PySem.W.nsIn K mainGlobals "is_shape" = some (some (.ref f1))) (l1 : K.lookup f1 = some ⟨oc1, od1, .func (PySem.W.fnOf "is_shape" "is_shape" (defArgs sIsShape) (defBody sIsShape) (defScope sIsShape) .none kV1 dc1 pm1 an1 cd1 ct1), sl1⟩) (c1 : PySem.W.codeIn K cd1 "is_shape" = true) (k1 : PySem.W.keepIn K (.ref f1) = true)
    (a2 : PySem.W.nsIn K mainGlobals "size_of" = some (some (.ref f2))) (l2 : K.lookup f2 = some ⟨oc2, od2, .func (PySem.W.fnOf "size_of" "size_of" (defArgs sSizeOf) (defBody sSizeOf) (defScope sSizeOf) .none kV2 dc2 pm2 an2 cd2 ct2), sl2⟩) (c2 : PySem.W.codeIn K cd2 "size_of" = true) (k2 : PySem.W.keepIn K (.ref f2) = true)
    (a3 : PySem.W.nsIn K mainGlobals "comb" = some (some (.ref f3))) (l3 : K.lookup f3 = some ⟨oc3, od3, .func (PySem.W.fnOf "comb" "comb" (defArgs sComb) (defBody sComb) (defScope sComb) .none kV3 dc3 pm3 an3 cd3 ct3), sl3⟩) (c3 : PySem.W.codeIn K cd3 "comb" = true) (k3 : PySem.W.keepIn K (.ref f3) = true)
    (a4 : PySem.W.nsIn K mainGlobals "stretches" = some (some (.ref f4))) (l4 : K.lookup f4 = some ⟨oc4, od4, .func (PySem.W.fnOf "stretches" "stretches" (defArgs sStretches) (defBody sStretches) (defScope sStretches) .none kV4 dc4 pm4 an4 cd4 ct4), sl4⟩) (c4 : PySem.W.codeIn K cd4 "stretches" = true) (k4 : PySem.W.keepIn K (.ref f4) = true)
    (a5 : PySem.W.nsIn K mainGlobals "taken_off" = some (some (.ref f5))) (l5 : K.lookup f5 = some ⟨oc5, od5, .func (PySem.W.fnOf "taken_off" "taken_off" (defArgs sTakenOff) (defBody sTakenOff) (defScope sTakenOff) .none kV5 dc5 pm5 an5 cd5 ct5), sl5⟩) (c5 : PySem.W.codeIn K cd5 "taken_off" = true) (k5 : PySem.W.keepIn K (.ref f5) = true)
    (a6 : PySem.W.nsIn K mainGlobals "read_level" = some (some (.ref f6))) (l6 : K.lookup f6 = some ⟨oc6, od6, .func (PySem.W.fnOf "read_level" "read_level" (defArgs sReadLevel) (defBody sReadLevel) (defScope sReadLevel) .none kV6 dc6 pm6 an6 cd6 ct6), sl6⟩) (c6 : PySem.W.codeIn K cd6 "read_level" = true) (k6 : PySem.W.keepIn K (.ref f6) = true)
    (a7 : PySem.W.nsIn K mainGlobals "read_pair" = some (some (.ref f7))) (l7 : K.lookup f7 = some ⟨oc7, od7, .func (PySem.W.fnOf "read_pair" "read_pair" (defArgs sReadPair) (defBody sReadPair) (defScope sReadPair) .none kV7 dc7 pm7 an7 cd7 ct7), sl7⟩) (c7 : PySem.W.codeIn K cd7 "read_pair" = true) (k7 : PySem.W.keepIn K (.ref f7) = true)
    (a8 : PySem.W.nsIn K mainGlobals "nothing_known" = some (some (.ref f8))) (l8 : K.lookup f8 = some ⟨oc8, od8, .func (PySem.W.fnOf "nothing_known" "nothing_known" (defArgs sNothing) (defBody sNothing) (defScope sNothing) .none kV8 dc8 pm8 an8 cd8 ct8), sl8⟩) (c8 : PySem.W.codeIn K cd8 "nothing_known" = true) (k8 : PySem.W.keepIn K (.ref f8) = true)
    (a9 : PySem.W.nsIn K mainGlobals "fits_shape" = some (some (.ref f9))) (l9 : K.lookup f9 = some ⟨oc9, od9, .func (PySem.W.fnOf "fits_shape" "fits_shape" (defArgs sFits) (defBody sFits) (defScope sFits) .none kV9 dc9 pm9 an9 cd9 ct9), sl9⟩) (c9 : PySem.W.codeIn K cd9 "fits_shape" = true) (k9 : PySem.W.keepIn K (.ref f9) = true)
    (a10 : PySem.W.nsIn K mainGlobals "entries_told" = some (some (.ref f10))) (l10 : K.lookup f10 = some ⟨oc10, od10, .func (PySem.W.fnOf "entries_told" "entries_told" (defArgs sTold) (defBody sTold) (defScope sTold) .none kV10 dc10 pm10 an10 cd10 ct10), sl10⟩) (c10 : PySem.W.codeIn K cd10 "entries_told" = true) (k10 : PySem.W.keepIn K (.ref f10) = true)
    (a11 : PySem.W.nsIn K mainGlobals "_law_source" = some (some (.ref f11))) (l11 : K.lookup f11 = some ⟨oc11, od11, .func (PySem.W.fnOf "_law_source" "_law_source" (defArgs sLSource) (defBody sLSource) (defScope sLSource) .none kV11 dc11 pm11 an11 cd11 ct11), sl11⟩) (c11 : PySem.W.codeIn K cd11 "_law_source" = true) (k11 : PySem.W.keepIn K (.ref f11) = true)
    (a12 : PySem.W.nsIn K mainGlobals "_law_pick" = some (some (.ref f12))) (l12 : K.lookup f12 = some ⟨oc12, od12, .func (PySem.W.fnOf "_law_pick" "_law_pick" (defArgs sLPick) (defBody sLPick) (defScope sLPick) .none kV12 dc12 pm12 an12 cd12 ct12), sl12⟩) (c12 : PySem.W.codeIn K cd12 "_law_pick" = true) (k12 : PySem.W.keepIn K (.ref f12) = true)
    (a13 : PySem.W.nsIn K mainGlobals "_law_of" = some (some (.ref f13))) (l13 : K.lookup f13 = some ⟨oc13, od13, .func (PySem.W.fnOf "_law_of" "_law_of" (defArgs sLOf) (defBody sLOf) (defScope sLOf) .none kV13 dc13 pm13 an13 cd13 ct13), sl13⟩) (c13 : PySem.W.codeIn K cd13 "_law_of" = true) (k13 : PySem.W.keepIn K (.ref f13) = true)
    (a14 : PySem.W.nsIn K mainGlobals "_law_comb" = some (some (.ref f14))) (l14 : K.lookup f14 = some ⟨oc14, od14, .func (PySem.W.fnOf "_law_comb" "_law_comb" (defArgs sLComb) (defBody sLComb) (defScope sLComb) .none kV14 dc14 pm14 an14 cd14 ct14), sl14⟩) (c14 : PySem.W.codeIn K cd14 "_law_comb" = true) (k14 : PySem.W.keepIn K (.ref f14) = true)
    (a15 : PySem.W.nsIn K mainGlobals "_law_halves" = some (some (.ref f15))) (l15 : K.lookup f15 = some ⟨oc15, od15, .func (PySem.W.fnOf "_law_halves" "_law_halves" (defArgs sLHalves) (defBody sLHalves) (defScope sLHalves) .none kV15 dc15 pm15 an15 cd15 ct15), sl15⟩) (c15 : PySem.W.codeIn K cd15 "_law_halves" = true) (k15 : PySem.W.keepIn K (.ref f15) = true)
    (a16 : PySem.W.nsIn K mainGlobals "_law_shape" = some (some (.ref f16))) (l16 : K.lookup f16 = some ⟨oc16, od16, .func (PySem.W.fnOf "_law_shape" "_law_shape" (defArgs sLShape) (defBody sLShape) (defScope sLShape) .none kV16 dc16 pm16 an16 cd16 ct16), sl16⟩) (c16 : PySem.W.codeIn K cd16 "_law_shape" = true) (k16 : PySem.W.keepIn K (.ref f16) = true)
    (a17 : PySem.W.nsIn K mainGlobals "_law_size" = some (some (.ref f17))) (l17 : K.lookup f17 = some ⟨oc17, od17, .func (PySem.W.fnOf "_law_size" "_law_size" (defArgs sLSize) (defBody sLSize) (defScope sLSize) .none kV17 dc17 pm17 an17 cd17 ct17), sl17⟩) (c17 : PySem.W.codeIn K cd17 "_law_size" = true) (k17 : PySem.W.keepIn K (.ref f17) = true)
    (a18 : PySem.W.nsIn K mainGlobals "_law_any_table" = some (some (.ref f18))) (l18 : K.lookup f18 = some ⟨oc18, od18, .func (PySem.W.fnOf "_law_any_table" "_law_any_table" (defArgs sLAny) (defBody sLAny) (defScope sLAny) .none kV18 dc18 pm18 an18 cd18 ct18), sl18⟩) (c18 : PySem.W.codeIn K cd18 "_law_any_table" = true) (k18 : PySem.W.keepIn K (.ref f18) = true)
    (a19 : PySem.W.nsIn K mainGlobals "_law_entry" = some (some (.ref f19))) (l19 : K.lookup f19 = some ⟨oc19, od19, .func (PySem.W.fnOf "_law_entry" "_law_entry" (defArgs sLEntry) (defBody sLEntry) (defScope sLEntry) .none kV19 dc19 pm19 an19 cd19 ct19), sl19⟩) (c19 : PySem.W.codeIn K cd19 "_law_entry" = true) (k19 : PySem.W.keepIn K (.ref f19) = true)
    (a20 : PySem.W.nsIn K mainGlobals "_law_filled" = some (some (.ref f20))) (l20 : K.lookup f20 = some ⟨oc20, od20, .func (PySem.W.fnOf "_law_filled" "_law_filled" (defArgs sLFilled) (defBody sLFilled) (defScope sLFilled) .none kV20 dc20 pm20 an20 cd20 ct20), sl20⟩) (c20 : PySem.W.codeIn K cd20 "_law_filled" = true) (k20 : PySem.W.keepIn K (.ref f20) = true)
    (a21 : PySem.W.nsIn K mainGlobals "_law_pressed" = some (some (.ref f21))) (l21 : K.lookup f21 = some ⟨oc21, od21, .func (PySem.W.fnOf "_law_pressed" "_law_pressed" (defArgs sLPressed) (defBody sLPressed) (defScope sLPressed) .none kV21 dc21 pm21 an21 cd21 ct21), sl21⟩) (c21 : PySem.W.codeIn K cd21 "_law_pressed" = true) (k21 : PySem.W.keepIn K (.ref f21) = true)
    (a22 : PySem.W.nsIn K mainGlobals "_law_stage" = some (some (.ref f22))) (l22 : K.lookup f22 = some ⟨oc22, od22, .func (PySem.W.fnOf "_law_stage" "_law_stage" (defArgs sLStage) (defBody sLStage) (defScope sLStage) .none kV22 dc22 pm22 an22 cd22 ct22), sl22⟩) (c22 : PySem.W.codeIn K cd22 "_law_stage" = true) (k22 : PySem.W.keepIn K (.ref f22) = true)
    (a23 : PySem.W.nsIn K mainGlobals "_law_told" = some (some (.ref f23))) (l23 : K.lookup f23 = some ⟨oc23, od23, .func (PySem.W.fnOf "_law_told" "_law_told" (defArgs sLTold) (defBody sLTold) (defScope sLTold) .none kV23 dc23 pm23 an23 cd23 ct23), sl23⟩) (c23 : PySem.W.codeIn K cd23 "_law_told" = true) (k23 : PySem.W.keepIn K (.ref f23) = true)
    (a24 : PySem.W.nsIn K mainGlobals "_law_used" = some (some (.ref f24))) (l24 : K.lookup f24 = some ⟨oc24, od24, .func (PySem.W.fnOf "_law_used" "_law_used" (defArgs sLUsed) (defBody sLUsed) (defScope sLUsed) .none kV24 dc24 pm24 an24 cd24 ct24), sl24⟩) (c24 : PySem.W.codeIn K cd24 "_law_used" = true) (k24 : PySem.W.keepIn K (.ref f24) = true)
    (a25 : PySem.W.nsIn K mainGlobals "_law_sizes" = some (some (.ref f25))) (l25 : K.lookup f25 = some ⟨oc25, od25, .func (PySem.W.fnOf "_law_sizes" "_law_sizes" (defArgs sLSizes) (defBody sLSizes) (defScope sLSizes) .none kV25 dc25 pm25 an25 cd25 ct25), sl25⟩) (c25 : PySem.W.codeIn K cd25 "_law_sizes" = true) (k25 : PySem.W.keepIn K (.ref f25) = true)
    (a26 : PySem.W.nsIn K mainGlobals "_law_some_plan" = some (some (.ref f26))) (l26 : K.lookup f26 = some ⟨oc26, od26, .func (PySem.W.fnOf "_law_some_plan" "_law_some_plan" (defArgs sLPlan) (defBody sLPlan) (defScope sLPlan) .none kV26 dc26 pm26 an26 cd26 ct26), sl26⟩) (c26 : PySem.W.codeIn K cd26 "_law_some_plan" = true) (k26 : PySem.W.keepIn K (.ref f26) = true)
    (a27 : PySem.W.nsIn K mainGlobals "law" = some (some (.ref f27))) (l27 : K.lookup f27 = some ⟨oc27, od27, .func (PySem.W.fnOf "law" "law" (defArgs sLaw) (defBody sLaw) (defScope sLaw) .none kV27 dc27 pm27 an27 cd27 ct27), sl27⟩) (c27 : PySem.W.codeIn K cd27 "law" = true) (k27 : PySem.W.keepIn K (.ref f27) = true)
    (z0 : PySem.W.nsIn K mainGlobals "isinstance" = some none)
    (z1 : PySem.W.nsIn K mainGlobals "tuple" = some none)
    (z2 : PySem.W.nsIn K mainGlobals "len" = some none)
    (z3 : PySem.W.nsIn K mainGlobals "enumerate" = some none)
    (z4 : PySem.W.nsIn K mainGlobals "range" = some none)
    (z5 : PySem.W.nsIn K mainGlobals "min" = some none)
    (z6 : PySem.W.nsIn K mainGlobals "max" = some none)
    (z7 : PySem.W.nsIn K mainGlobals "dict" = some none)
    (z8 : PySem.W.nsIn K mainGlobals "zip" = some none)
    (z9 : PySem.W.nsIn K mainGlobals "int" = some none)
    (z10 : PySem.W.nsIn K mainGlobals "abs" = some none)
    (z11 : PySem.W.nsIn K mainGlobals "set" = some none)
    (z12 : PySem.W.nsIn K mainGlobals "sorted" = some none)
    (z13 : PySem.W.nsIn K mainGlobals "repr" = some none)
    : ∃ fd : FuncData, Fun K "law" "law" sLaw fa fd ∧ (∀ (s : Shared) (v : Value), BindsTo s fd ⟨[v], []⟩ [("_law_script", v)]) ∧ Nonempty (Tx K mg) := by
  have e := hfa.symm.trans (PySem.W.mg_of X G a27)
  cases e
  refine ⟨PySem.W.fnOf "law" "law" (defArgs sLaw) (defBody sLaw) (defScope sLaw) .none kV27 dc27 pm27 an27 cd27 ct27, fun_mk l27 c27 k27, fun s v => .of_eq rfl, ⟨{
    fWrong := f0, dWrong := _, DWrong := mk_df X G a0 l0 c0 k0 (fun _ _ _ _ _ _ us hl => match us, hl with | [_], _ => rfl),
    fIsShape := f1, dIsShape := _, DIsShape := mk_df X G a1 l1 c1 k1 (fun _ _ _ _ _ _ us hl => match us, hl with | [_], _ => rfl),
    fSizeOf := f2, dSizeOf := _, DSizeOf := mk_df X G a2 l2 c2 k2 (fun _ _ _ _ _ _ us hl => match us, hl with | [_], _ => rfl),
    fComb := f3, dComb := _, DComb := mk_df X G a3 l3 c3 k3 (fun _ _ _ _ _ _ us hl => match us, hl with | [_, _], _ => rfl),
    fStr := f4, dStr := _, DStr := mk_df X G a4 l4 c4 k4 (fun _ _ _ _ _ _ us hl => match us, hl with | [_, _], _ => rfl),
    fTaken := f5, dTaken := _, DTaken := mk_df X G a5 l5 c5 k5 (fun _ _ _ _ _ _ us hl => match us, hl with | [_, _], _ => rfl),
    fLevel := f6, dLevel := _, DLevel := mk_df X G a6 l6 c6 k6 (fun _ _ _ _ _ _ us hl => match us, hl with | [_, _, _], _ => rfl),
    fPair := f7, dPair := _, DPair := mk_df X G a7 l7 c7 k7 (fun _ _ _ _ _ _ us hl => match us, hl with | [_, _, _, _], _ => rfl),
    fNoth := f8, dNoth := _, DNoth := mk_df X G a8 l8 c8 k8 (fun _ _ _ _ _ _ us hl => match us, hl with | [_], _ => rfl),
    fFits := f9, dFits := _, DFits := mk_df X G a9 l9 c9 k9 (fun _ _ _ _ _ _ us hl => match us, hl with | [_, _, _, _], _ => rfl),
    fTold := f10, dTold := _, DTold := mk_df X G a10 l10 c10 k10 (fun _ _ _ _ _ _ us hl => match us, hl with | [_, _, _], _ => rfl),
    fLSource := f11, dLSource := _, DLSource := mk_df X G a11 l11 c11 k11 (fun _ _ _ _ _ _ us hl => match us, hl with | [_], _ => rfl),
    fLPick := f12, dLPick := _, DLPick := mk_df X G a12 l12 c12 k12 (fun _ _ _ _ _ _ us hl => match us, hl with | [_, _], _ => rfl),
    fLOf := f13, dLOf := _, DLOf := mk_df X G a13 l13 c13 k13 (fun _ _ _ _ _ _ us hl => match us, hl with | [_, _], _ => rfl),
    fLComb := f14, dLComb := _, DLComb := mk_df X G a14 l14 c14 k14 (fun _ _ _ _ _ _ us hl => match us, hl with | [_, _], _ => rfl),
    fLHalves := f15, dLHalves := _, DLHalves := mk_df X G a15 l15 c15 k15 (fun _ _ _ _ _ _ us hl => match us, hl with | [_], _ => rfl),
    fLShape := f16, dLShape := _, DLShape := mk_df X G a16 l16 c16 k16 (fun _ _ _ _ _ _ us hl => match us, hl with | [_, _], _ => rfl),
    fLSize := f17, dLSize := _, DLSize := mk_df X G a17 l17 c17 k17 (fun _ _ _ _ _ _ us hl => match us, hl with | [_], _ => rfl),
    fLAny := f18, dLAny := _, DLAny := mk_df X G a18 l18 c18 k18 (fun _ _ _ _ _ _ us hl => match us, hl with | [_, _], _ => rfl),
    fLEntry := f19, dLEntry := _, DLEntry := mk_df X G a19 l19 c19 k19 (fun _ _ _ _ _ _ us hl => match us, hl with | [_, _], _ => rfl),
    fLFilled := f20, dLFilled := _, DLFilled := mk_df X G a20 l20 c20 k20 (fun _ _ _ _ _ _ us hl => match us, hl with | [_, _], _ => rfl),
    fLPressed := f21, dLPressed := _, DLPressed := mk_df X G a21 l21 c21 k21 (fun _ _ _ _ _ _ us hl => match us, hl with | [_, _], _ => rfl),
    fLStage := f22, dLStage := _, DLStage := mk_df X G a22 l22 c22 k22 (fun _ _ _ _ _ _ us hl => match us, hl with | [_, _], _ => rfl),
    fLTold := f23, dLTold := _, DLTold := mk_df X G a23 l23 c23 k23 (fun _ _ _ _ _ _ us hl => match us, hl with | [_, _], _ => rfl),
    fLUsed := f24, dLUsed := _, DLUsed := mk_df X G a24 l24 c24 k24 (fun _ _ _ _ _ _ us hl => match us, hl with | [_, _], _ => rfl),
    fLSizes := f25, dLSizes := _, DLSizes := mk_df X G a25 l25 c25 k25 (fun _ _ _ _ _ _ us hl => match us, hl with | [_, _], _ => rfl),
    fLPlan := f26, dLPlan := _, DLPlan := mk_df X G a26 l26 c26 k26 (fun _ _ _ _ _ _ us hl => match us, hl with | [_, _, _], _ => rfl),
    m_isinstance := PySem.W.mg_none_of X G z0,
    m_tuple := PySem.W.mg_none_of X G z1,
    m_len := PySem.W.mg_none_of X G z2,
    m_enumerate := PySem.W.mg_none_of X G z3,
    m_range := PySem.W.mg_none_of X G z4,
    m_min := PySem.W.mg_none_of X G z5,
    m_max := PySem.W.mg_none_of X G z6,
    m_dict := PySem.W.mg_none_of X G z7,
    m_zip := PySem.W.mg_none_of X G z8,
    m_int := PySem.W.mg_none_of X G z9,
    m_abs := PySem.W.mg_none_of X G z10,
    m_set := PySem.W.mg_none_of X G z11,
    m_sorted := PySem.W.mg_none_of X G z12,
    m_repr := PySem.W.mg_none_of X G z13 }⟩⟩
theorem walk {l : PySem.W.OpenLaw} {q : Program} {loose : List Str} {XP : (Str → Option Value) → Heap → Prop} {YP : World → Heap → Prop} {d : DefRec} {K : Params → PySem.W.Frag} (hn : l.most = some 63) (hdf : d.params.defaults = [])
    (hY : ∀ (w : World) (h : Heap), YP w h → (K w.params).In h)
    (F : ∀ (w : World) (mg : Str → Option Value) (fa : Addr) (h : Heap), (K w.params).In h → h.Ns mainGlobals mg → mg d.name = some (.ref fa) →
      ∃ fd : FuncData, Fun (K w.params) "law" "law" sLaw fa fd ∧ (∀ (s : Shared) (v : Value), BindsTo s fd ⟨[v], []⟩ [("_law_script", v)]) ∧ Nonempty (Tx (K w.params) mg)) :
    PySem.W.WalkO q loose XP YP l.row.toRowW d [] (fun f vs => PySem.call f vs) :=
  Att.attach_call hn hdf fun w s₀ s₁ mg mb fa o pm cd doc a vs ns G Y ho hd hcd hmg hobj hints hlen hg => by
    have KX := hY w s₁.heap Y
    obtain ⟨fd, FF, hb, ⟨T⟩⟩ := F w mg fa s₁.heap KX G.T.g hmg
    exact law_call2 KX G.T.g G.T.b G.T.builtins G.T.nolimit hg hobj hints (le_line (by omega)) fun base hK hN H hS e0 => law_run FF T (hb s₁ (.ref a)) hS hlen e0
end Lp
open PySem PySem.W PyProof.Rows
set_option maxRecDepth 100000 in
set_option maxHeartbeats 0 in
theorem PySem.Challenge.cw_lumpplans_k83_whole_entries_from_shapes_holds : PySem.Challenge.rw_lumpplans_k83_whole_entries_from_shapes.Holds := by
  w_on; o_law; k_head; (case hw => w_witness2)
  k_fill
  refine Lp.walk (l := PySem.Challenge.rw_lumpplans_k83_whole_entries_from_shapes) rfl rfl (fun w h Y => PySem.W.kIn_of Y) ?F
  case F =>
    intro w mg fa h KX G hmg
    refine' Lp.tx_mk KX G hmg ?a0 ?l0 ?c0 ?k0 ?a1 ?l1 ?c1 ?k1 ?a2 ?l2 ?c2 ?k2 ?a3 ?l3 ?c3 ?k3 ?a4 ?l4 ?c4 ?k4 ?a5 ?l5 ?c5 ?k5 ?a6 ?l6 ?c6 ?k6 ?a7 ?l7 ?c7 ?k7 ?a8 ?l8 ?c8 ?k8 ?a9 ?l9 ?c9 ?k9 ?a10 ?l10 ?c10 ?k10 ?a11 ?l11 ?c11 ?k11 ?a12 ?l12 ?c12 ?k12 ?a13 ?l13 ?c13 ?k13 ?a14 ?l14 ?c14 ?k14 ?a15 ?l15 ?c15 ?k15 ?a16 ?l16 ?c16 ?k16 ?a17 ?l17 ?c17 ?k17 ?a18 ?l18 ?c18 ?k18 ?a19 ?l19 ?c19 ?k19 ?a20 ?l20 ?c20 ?k20 ?a21 ?l21 ?c21 ?k21 ?a22 ?l22 ?c22 ?k22 ?a23 ?l23 ?c23 ?k23 ?a24 ?l24 ?c24 ?k24 ?a25 ?l25 ?c25 ?k25 ?a26 ?l26 ?c26 ?k26 ?a27 ?l27 ?c27 ?k27 ?z0 ?z1 ?z2 ?z3 ?z4 ?z5 ?z6 ?z7 ?z8 ?z9 ?z10 ?z11 ?z12 ?z13
    (case a0 => k_is); (case l0 => k_is); (case c0 => k_is); (case k0 => k_is)
    (case a1 => k_is); (case l1 => k_is); (case c1 => k_is); (case k1 => k_is)
    (case a2 => k_is); (case l2 => k_is); (case c2 => k_is); (case k2 => k_is)
    (case a3 => k_is); (case l3 => k_is); (case c3 => k_is); (case k3 => k_is)
    (case a4 => k_is); (case l4 => k_is); (case c4 => k_is); (case k4 => k_is)
    (case a5 => k_is); (case l5 => k_is); (case c5 => k_is); (case k5 => k_is)
    (case a6 => k_is); (case l6 => k_is); (case c6 => k_is); (case k6 => k_is)
    (case a7 => k_is); (case l7 => k_is); (case c7 => k_is); (case k7 => k_is)
    (case a8 => k_is); (case l8 => k_is); (case c8 => k_is); (case k8 => k_is)
    (case a9 => k_is); (case l9 => k_is); (case c9 => k_is); (case k9 => k_is)
    (case a10 => k_is); (case l10 => k_is); (case c10 => k_is); (case k10 => k_is)
    (case a11 => k_is); (case l11 => k_is); (case c11 => k_is); (case k11 => k_is)
    (case a12 => k_is); (case l12 => k_is); (case c12 => k_is); (case k12 => k_is)
    (case a13 => k_is); (case l13 => k_is); (case c13 => k_is); (case k13 => k_is)
    (case a14 => k_is); (case l14 => k_is); (case c14 => k_is); (case k14 => k_is)
    (case a15 => k_is); (case l15 => k_is); (case c15 => k_is); (case k15 => k_is)
    (case a16 => k_is); (case l16 => k_is); (case c16 => k_is); (case k16 => k_is)
    (case a17 => k_is); (case l17 => k_is); (case c17 => k_is); (case k17 => k_is)
    (case a18 => k_is); (case l18 => k_is); (case c18 => k_is); (case k18 => k_is)
    (case a19 => k_is); (case l19 => k_is); (case c19 => k_is); (case k19 => k_is)
    (case a20 => k_is); (case l20 => k_is); (case c20 => k_is); (case k20 => k_is)
    (case a21 => k_is); (case l21 => k_is); (case c21 => k_is); (case k21 => k_is)
    (case a22 => k_is); (case l22 => k_is); (case c22 => k_is); (case k22 => k_is)
    (case a23 => k_is); (case l23 => k_is); (case c23 => k_is); (case k23 => k_is)
    (case a24 => k_is); (case l24 => k_is); (case c24 => k_is); (case k24 => k_is)
    (case a25 => k_is); (case l25 => k_is); (case c25 => k_is); (case k25 => k_is)
    (case a26 => k_is); (case l26 => k_is); (case c26 => k_is); (case k26 => k_is)
    (case a27 => k_is); (case l27 => k_is); (case c27 => k_is); (case k27 => k_is)
    (case z0 => k_is)
    (case z1 => k_is)
    (case z2 => k_is)
    (case z3 => k_is)
    (case z4 => k_is)
    (case z5 => k_is)
    (case z6 => k_is)
    (case z7 => k_is)
    (case z8 => k_is)
    (case z9 => k_is)
    (case z10 => k_is)
    (case z11 => k_is)
    (case z12 => k_is)
    (case z13 => k_is)
