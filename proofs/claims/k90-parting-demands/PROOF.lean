import PyProof.Rows.All
import Wide.All
import OpenK.AllK
import Wide.FinOn
import KE.GoesMore
import HandS.ForMost
import HandS.Flow
import HandS.IsInst
import HandS.Star
import HandS.TupAny
import HandS.TupSets
import HandS.SortRule
import HandS.Zip
import HandS.Conv
import HandS.WideBits
import HandS.ListItems
import HandS.SetFor
import HandS.Walk
import PySem.Challenge.RW_bitswitches_k90_whole_parting_demands
set_option Elab.async false
set_option linter.all false
set_option maxRecDepth 100000
set_option maxHeartbeats 4000000
/-! plain mathematics of the nets: no program in sight -/
namespace K90
/-! ### steps through a row -/
def ng (o : List Nat) (x : Nat) : Nat := o.getD x 0
/-- the two out-wires to which an out-wire leads -/
def nxt (o : List Nat) (x : Nat) : List Nat := [ng o x - ng o x % 2, ng o x - ng o x % 2 + 1]
def stepE (o : List Nat) (cur : List Nat) : List Nat := cur.flatMap (nxt o)
def endsF (os : List (List Nat)) (s : Nat) : List Nat := os.foldl (fun c o => stepE o c) [2 * s, 2 * s + 1]
def lst (w : List Nat) : Nat := w.getLast?.getD 0
def ext (o : List Nat) (rows : List (List Nat)) : List (List Nat) := rows.flatMap fun w => (nxt o (lst w)).map fun x => w ++ [x]
def fwd (os : List (List Nat)) (s : Nat) : List (List Nat) := os.foldl (fun r o => ext o r) [[2 * s], [2 * s + 1]]
theorem lst_snoc (w : List Nat) (x : Nat) : lst (w ++ [x]) = x := by simp [lst]
theorem ext_last (o : List Nat) (rows : List (List Nat)) : (ext o rows).map lst = stepE o (rows.map lst) := by
  induction rows with
  | nil => rfl
  | cons w r ih =>
    have ih' : (r.flatMap fun w => (nxt o (lst w)).map fun x => w ++ [x]).map lst = (r.map lst).flatMap (nxt o) := ih
    unfold ext stepE
    rw [List.map_cons, List.flatMap_cons, List.flatMap_cons, List.map_append, ih', List.map_map]
    congr 1
    have e : (lst ∘ fun x => w ++ [x]) = id := by
      funext x
      exact lst_snoc w x
    rw [e, List.map_id]
theorem foldl_last : ∀ (os : List (List Nat)) (rows : List (List Nat)), (os.foldl (fun r o => ext o r) rows).map lst = os.foldl (fun c o => stepE o c) (rows.map lst)
  | [], _ => rfl
  | o :: os, rows => by
    rw [List.foldl_cons, List.foldl_cons, foldl_last os, ext_last]
theorem fwd_last (os : List (List Nat)) (s : Nat) : (fwd os s).map lst = endsF os s := foldl_last os _
theorem ext_len (o : List Nat) (rows : List (List Nat)) : (ext o rows).length = 2 * rows.length := by
  induction rows with
  | nil => rfl
  | cons w r ih =>
    have ih' : (r.flatMap fun w => (nxt o (lst w)).map fun x => w ++ [x]).length = 2 * r.length := ih
    unfold ext
    rw [List.flatMap_cons, List.length_append, ih', List.length_map, List.length_cons]
    show 2 + 2 * r.length = 2 * (r.length + 1)
    omega
theorem foldl_len : ∀ (os rows : List (List Nat)), (os.foldl (fun r o => ext o r) rows).length = 2 ^ os.length * rows.length
  | [], rows => by simp
  | o :: os, rows => by
    rw [List.foldl_cons, foldl_len os, ext_len, List.length_cons, Nat.pow_succ]
    simp only [Nat.mul_assoc]
theorem fwd_len (os : List (List Nat)) (s : Nat) : (fwd os s).length = 2 ^ (os.length + 1) := by
  unfold fwd
  rw [foldl_len]
  show 2 ^ os.length * 2 = _
  rw [Nat.pow_succ]
/-! ### orders, nets -/
structure Ord (W : Nat) (o : List Nat) : Prop where
  len : o.length = W
  nd : o.Nodup
  lt : ∀ x ∈ o, x < W
theorem Ord.ng_lt {W : Nat} {o : List Nat} (h : Ord W o) {x : Nat} (hx : x < W) : ng o x < W := by
  have hx' : x < o.length := by rw [h.len]; exact hx
  have e : ng o x = o[x] := by
    unfold ng
    rw [List.getD_eq_getElem?_getD, List.getElem?_eq_getElem hx']
    rfl
  rw [e]
  exact h.lt _ (List.getElem_mem hx')
theorem ng_some {o : List Nat} {x : Nat} (h : x < o.length) : o[x]? = some (ng o x) := by
  unfold ng
  rw [List.getD_eq_getElem?_getD, List.getElem?_eq_getElem h]
  rfl
structure Net (b : Nat) (os : List (List Nat)) : Prop where
  lo : 1 ≤ b
  hi : b ≤ 4
  rows : os.length + 1 = b
  ord : ∀ o ∈ os, Ord (2 ^ b) o
def Ban (b : Nat) (os : List (List Nat)) : Prop := ∀ s, s < 2 ^ (b - 1) → (endsF os s).Perm (List.range (2 ^ b))
theorem pow_half {b : Nat} (h : 1 ≤ b) : 2 * 2 ^ (b - 1) = 2 ^ b := by
  obtain ⟨c, rfl⟩ : ∃ c, b = c + 1 := ⟨b - 1, by omega⟩
  rw [Nat.add_sub_cancel, Nat.pow_succ]
  omega
/-- all wires of the ways are wires -/
theorem nxt_lt {W : Nat} {o : List Nat} (h : Ord W o) (he : W % 2 = 0) {x : Nat} (hx : x < W) : ∀ y ∈ nxt o x, y < W := by
  intro y hy
  have h1 := h.ng_lt hx
  have e : y = ng o x - ng o x % 2 ∨ y = ng o x - ng o x % 2 + 1 := by simpa [nxt] using hy
  rcases e with e | e <;> subst e <;> omega
theorem even_pow {b : Nat} (h : 1 ≤ b) : 2 ^ b % 2 = 0 := by
  rw [← pow_half h]
  omega
structure WaysOk (W n : Nat) (rows : List (List Nat)) : Prop where
  len : ∀ w ∈ rows, w.length = n
  lt : ∀ w ∈ rows, ∀ x ∈ w, x < W
theorem lst_mem {w : List Nat} (h : w ≠ []) : lst w ∈ w := by
  unfold lst
  rw [List.getLast?_eq_getLast h]
  exact List.getLast_mem h
theorem WaysOk.ext {W n : Nat} {rows : List (List Nat)} {o : List Nat} (h : WaysOk W n rows) (hn : 0 < n) (ho : Ord W o) (he : W % 2 = 0) : WaysOk W (n + 1) (ext o rows) := by
  have key : ∀ v ∈ K90.ext o rows, ∃ w ∈ rows, ∃ x ∈ nxt o (lst w), v = w ++ [x] := by
    intro v hv
    obtain ⟨w, hw, hv⟩ := List.mem_flatMap.mp hv
    obtain ⟨x, hx, e⟩ := List.mem_map.mp hv
    exact ⟨w, hw, x, hx, e.symm⟩
  refine ⟨fun v hv => ?_, fun v hv y hy => ?_⟩
  · obtain ⟨w, hw, x, hx, rfl⟩ := key v hv
    rw [List.length_append, h.len w hw]
    rfl
  · obtain ⟨w, hw, x, hx, rfl⟩ := key v hv
    rcases List.mem_append.mp hy with hy | hy
    · exact h.lt w hw y hy
    · have e : y = x := by simpa using hy
      subst e
      have wn : w ≠ [] := fun z => by
        have := h.len w hw
        rw [z] at this
        simp at this
        omega
      exact nxt_lt ho he (h.lt w hw _ (lst_mem wn)) y hx
theorem foldl_ok {W : Nat} (he : W % 2 = 0) : ∀ (os : List (List Nat)) {n : Nat} {rows : List (List Nat)}, 0 < n → (∀ o ∈ os, Ord W o) → WaysOk W n rows → WaysOk W (n + os.length) (os.foldl (fun r o => ext o r) rows)
  | [], n, rows, _, _, h => h
  | o :: os, n, rows, hn, ho, h => by
    rw [List.foldl_cons, List.length_cons]
    have := foldl_ok he os (n := n + 1) (rows := ext o rows) (by omega) (fun o' h' => ho o' (List.mem_cons_of_mem _ h')) (h.ext hn (ho o List.mem_cons_self) he)
    rw [show n + (os.length + 1) = n + 1 + os.length by omega]
    exact this
theorem start_ok {b s : Nat} (hb : 1 ≤ b) (hs : s < 2 ^ (b - 1)) : WaysOk (2 ^ b) 1 [[2 * s], [2 * s + 1]] := by
  have := pow_half hb
  refine ⟨fun w hw => ?_, fun w hw x hx => ?_⟩
  · have e : w = [2 * s] ∨ w = [2 * s + 1] := by simpa using hw
    rcases e with e | e <;> subst e <;> rfl
  · have e : w = [2 * s] ∨ w = [2 * s + 1] := by simpa using hw
    rcases e with e | e <;> subst e
    · have : x = 2 * s := by simpa using hx
      omega
    · have : x = 2 * s + 1 := by simpa using hx
      omega
theorem fwd_ok {b : Nat} {os : List (List Nat)} (N : Net b os) {s : Nat} (hs : s < 2 ^ (b - 1)) : WaysOk (2 ^ b) b (fwd os s) := by
  have h := foldl_ok (even_pow N.lo) os (n := 1) (by omega) N.ord (start_ok N.lo hs)
  rw [show 1 + os.length = b by have := N.rows; omega] at h
  exact h
/-! ### the one way -/
def way (os : List (List Nat)) (p : Nat × Nat) : List Nat := ((fwd os (p.1 / 2)).find? fun w => lst w == p.2).getD []
theorem nodup_inj {α β : Type} {f : α → β} : ∀ {l : List α}, (l.map f).Nodup → ∀ x ∈ l, ∀ y ∈ l, f x = f y → x = y
  | [], _, x, hx, _, _, _ => nomatch hx
  | a :: l, h, x, hx, y, hy, e => by
    rw [List.map_cons, List.nodup_cons] at h
    rcases List.mem_cons.mp hx with e1 | hx <;> rcases List.mem_cons.mp hy with e2 | hy
    · rw [e1, e2]
    · exact absurd (List.mem_map.mpr ⟨y, hy, by rw [← e, e1]⟩) h.1
    · exact absurd (List.mem_map.mpr ⟨x, hx, by rw [e, e2]⟩) h.1
    · exact nodup_inj h.2 x hx y hy e
theorem ban_nodup {b : Nat} {os : List (List Nat)} (B : Ban b os) {s : Nat} (hs : s < 2 ^ (b - 1)) : ((fwd os s).map lst).Nodup := by
  rw [fwd_last]
  exact (B s hs).symm.nodup List.nodup_range
theorem way_mem {b : Nat} {os : List (List Nat)} (B : Ban b os) {p : Nat × Nat} (h1 : p.1 / 2 < 2 ^ (b - 1)) (h2 : p.2 < 2 ^ b) : way os p ∈ fwd os (p.1 / 2) ∧ lst (way os p) = p.2 := by
  have hm : p.2 ∈ (fwd os (p.1 / 2)).map lst := by
    rw [fwd_last]
    exact (B _ h1).symm.subset (List.mem_range.mpr h2)
  obtain ⟨w, hw, e⟩ := List.mem_map.mp hm
  unfold way
  cases q : (fwd os (p.1 / 2)).find? fun w => lst w == p.2 with
  | none =>
    have := List.find?_eq_none.mp q w hw
    exact absurd (beq_iff_eq.mpr e) this
  | some v =>
    have h := List.find?_some q
    exact ⟨List.mem_of_find?_eq_some q, beq_iff_eq.mp h⟩
theorem way_eq {b : Nat} {os : List (List Nat)} (B : Ban b os) {p : Nat × Nat} (h1 : p.1 / 2 < 2 ^ (b - 1)) {w : List Nat} (hw : w ∈ fwd os (p.1 / 2)) (e : lst w = p.2) (h2 : p.2 < 2 ^ b) : w = way os p := by
  obtain ⟨a, c⟩ := way_mem B h1 h2
  exact nodup_inj (ban_nodup B h1) w hw _ a (e.trans c.symm)
/-! ### ways apart, the least parting demands -/
/-- whether two ways have an out-wire of a row in common -/
def meet (w o : List Nat) : Bool := (List.range w.length).any fun r => ng w r == ng o r
def apart (w : List Nat) (os : List (List Nat)) : Bool := !os.any (meet w)
theorem meet_symm {w o : List Nat} (h : w.length = o.length) : meet w o = meet o w := by
  unfold meet
  rw [h]
  congr 1
  funext r
  exact Bool.beq_comm
theorem apart_one (w o : List Nat) : apart w [o] = !meet w o := by simp [apart]
def allPairs (W : Nat) : List (Nat × Nat) := (List.range W).flatMap fun b => (List.range W).map fun e => (b, e)
def beyond (p q : Nat × Nat) : Bool := decide (p.1 < q.1) && decide (q.2 ≠ p.2)
def partsAt (f g : Nat × Nat → List Nat) (p q : Nat × Nat) : Bool := meet (f p) (f q) != meet (g p) (g q)
def parting (W : Nat) (f g : Nat × Nat → List Nat) : Option ((Nat × Nat) × (Nat × Nat)) :=
  (allPairs W).findSome? fun p => (((allPairs W).filter (beyond p)).find? (partsAt f g p)).map fun q => (p, q)
theorem partsAt_symm (f g : Nat × Nat → List Nat) : partsAt f g = partsAt g f := by
  funext p q
  unfold partsAt
  cases meet (f p) (f q) <;> cases meet (g p) (g q) <;> rfl
theorem parting_symm (W : Nat) (f g : Nat × Nat → List Nat) : parting W f g = parting W g f := by
  unfold parting
  rw [partsAt_symm]
theorem mem_allPairs {W : Nat} {p : Nat × Nat} : p ∈ allPairs W ↔ p.1 < W ∧ p.2 < W := by
  unfold allPairs
  constructor
  · intro h
    obtain ⟨b, hb, h⟩ := List.mem_flatMap.mp h
    obtain ⟨e, he, rfl⟩ := List.mem_map.mp h
    exact ⟨List.mem_range.mp hb, List.mem_range.mp he⟩
  · rintro ⟨h1, h2⟩
    exact List.mem_flatMap.mpr ⟨p.1, List.mem_range.mpr h1, List.mem_map.mpr ⟨p.2, List.mem_range.mpr h2, rfl⟩⟩
theorem parting_none {W : Nat} {f g : Nat × Nat → List Nat} (h : parting W f g = none) {p q : Nat × Nat} (hp : p ∈ allPairs W) (hq : q ∈ allPairs W) (h1 : p.1 < q.1) (h2 : q.2 ≠ p.2) : meet (f p) (f q) = meet (g p) (g q) := by
  have h3 := List.findSome?_eq_none_iff.mp h p hp
  rw [Option.map_eq_none_iff] at h3
  have h4 := List.find?_eq_none.mp h3 q (List.mem_filter.mpr ⟨hq, by simp [beyond, h1, h2]⟩)
  unfold partsAt at h4
  cases e1 : meet (f p) (f q) <;> cases e2 : meet (g p) (g q) <;> simp_all
/-- demands that pass, one by one -/
def passes (f : Nat × Nat → List Nat) : List (Nat × Nat) → List (Nat × Nat) → Bool
  | _, [] => true
  | own, p :: r => if apart (f p) (own.map f) then passes f (own ++ [p]) r else false
theorem passes_alike {W L : Nat} {f g : Nat × Nat → List Nat} (h : parting W f g = none) (lf : ∀ p ∈ allPairs W, (f p).length = L) (lg : ∀ p ∈ allPairs W, (g p).length = L) :
    ∀ (r own : List (Nat × Nat)), (∀ p ∈ own ++ r, p ∈ allPairs W) → ((own ++ r).map (·.1)).Nodup → ((own ++ r).map (·.2)).Nodup → passes f own r = passes g own r
  | [], _, _, _, _ => rfl
  | p :: r, own, hm, n1, n2 => by
    have hp : p ∈ allPairs W := hm p (by simp)
    have e : apart (f p) (own.map f) = apart (g p) (own.map g) := by
      have key : ∀ q ∈ own, meet (f p) (f q) = meet (g p) (g q) := by
        intro q hq
        have hq' : q ∈ allPairs W := hm q (by simp [hq])
        have d1 : q.1 ≠ p.1 := by
          intro z
          rw [List.map_append, List.nodup_append] at n1
          exact n1.2.2 q.1 (List.mem_map.mpr ⟨q, hq, rfl⟩) p.1 (by simp) z
        have d2 : q.2 ≠ p.2 := by
          intro z
          rw [List.map_append, List.nodup_append] at n2
          exact n2.2.2 q.2 (List.mem_map.mpr ⟨q, hq, rfl⟩) p.2 (by simp) z
        rcases Nat.lt_or_gt_of_ne d1 with z | z
        · rw [meet_symm ((lf p hp).trans (lf q hq').symm), meet_symm ((lg p hp).trans (lg q hq').symm)]
          exact parting_none h hq' hp z d2.symm
        · exact parting_none h hp hq' z d2
      unfold apart
      rw [List.any_map, List.any_map]
      congr 1
      rw [Bool.eq_iff_iff, List.any_eq_true, List.any_eq_true]
      constructor
      · rintro ⟨q, hq, e⟩
        exact ⟨q, hq, by show meet (g p) (g q) = true; rw [← key q hq]; exact e⟩
      · rintro ⟨q, hq, e⟩
        exact ⟨q, hq, by show meet (f p) (f q) = true; rw [key q hq]; exact e⟩
    unfold passes
    rw [e]
    have e2 : own ++ p :: r = (own ++ [p]) ++ r := by simp
    rw [passes_alike h lf lg r (own ++ [p]) (by rw [← e2]; exact hm) (by rw [← e2]; exact n1) (by rw [← e2]; exact n2)]
end K90
/-! counting the ways; renamed nets -/
namespace K90
/-! ### counting -/
/-- each wire below n as often as cur has it -/
def upto (cur : List Nat) (n : Nat) : List Nat := (List.range n).flatMap fun w => List.replicate (cur.count w) w
theorem upto_succ (cur : List Nat) (n : Nat) : upto cur (n + 1) = upto cur n ++ List.replicate (cur.count n) n := by
  unfold upto
  rw [List.range_succ, List.flatMap_append]
  simp
theorem count_upto (cur : List Nat) (x : Nat) : ∀ n, (upto cur n).count x = if x < n then cur.count x else 0
  | 0 => by simp [upto]
  | n + 1 => by
    rw [upto_succ, List.count_append, count_upto cur x n, List.count_replicate]
    by_cases h1 : x = n
    · subst h1
      simp
    · have h2 : (n == x) = false := beq_eq_false_iff_ne.mpr fun e => h1 e.symm
      rw [h2]
      by_cases h3 : x < n
      · rw [if_pos h3, if_pos (show x < n + 1 by omega)]
        simp
      · rw [if_neg h3, if_neg (show ¬ x < n + 1 by omega)]
        simp
theorem upto_perm {cur : List Nat} {W : Nat} (h : ∀ x ∈ cur, x < W) : (upto cur W).Perm cur := by
  rw [List.perm_iff_count]
  intro x
  rw [count_upto]
  by_cases hx : x < W
  · rw [if_pos hx]
  · rw [if_neg hx]
    exact (List.count_eq_zero.mpr fun hm => hx (h x hm)).symm
theorem stepE_perm (o : List Nat) {a b : List Nat} (h : a.Perm b) : (stepE o a).Perm (stepE o b) := h.flatMap_right _
theorem stepE_app (o a b : List Nat) : stepE o (a ++ b) = stepE o a ++ stepE o b := List.flatMap_append ..
theorem count_rep (o : List Nat) (x n w : Nat) : (stepE o (List.replicate n x)).count w = (List.replicate n (ng o x - ng o x % 2) ++ List.replicate n (ng o x - ng o x % 2 + 1)).count w := by
  induction n with
  | zero => simp [stepE]
  | succ n ih =>
    have e : stepE o (List.replicate (n + 1) x) = nxt o x ++ stepE o (List.replicate n x) := by
      unfold stepE
      rw [List.replicate_succ, List.flatMap_cons]
    rw [e, List.count_append, ih, List.replicate_succ, List.replicate_succ]
    simp only [nxt, List.count_append, List.count_cons, List.count_nil]
    omega
theorem stepE_lt {W : Nat} {o : List Nat} (h : Ord W o) (he : W % 2 = 0) {cur : List Nat} (hc : ∀ x ∈ cur, x < W) : ∀ x ∈ stepE o cur, x < W := by
  intro y hy
  obtain ⟨x, hx, hy⟩ := List.mem_flatMap.mp hy
  exact nxt_lt h he (hc x hx) y hy
def curAt (os : List (List Nat)) (s r : Nat) : List Nat := (os.take r).foldl (fun c o => stepE o c) [2 * s, 2 * s + 1]
theorem curAt_succ {os : List (List Nat)} {s r : Nat} {o : List Nat} (h : os[r]? = some o) : curAt os s (r + 1) = stepE o (curAt os s r) := by
  unfold curAt
  rw [List.take_add_one, h, List.foldl_append]
  rfl
theorem curAt_all (os : List (List Nat)) (s : Nat) : curAt os s os.length = endsF os s := by
  unfold curAt
  rw [List.take_length]
  rfl
theorem curAt_lt {b : Nat} {os : List (List Nat)} (N : Net b os) {s : Nat} (hs : s < 2 ^ (b - 1)) : ∀ r, r ≤ os.length → ∀ x ∈ curAt os s r, x < 2 ^ b
  | 0, _ => fun x hx => by
    have := pow_half N.lo
    have hx' : x = 2 * s ∨ x = 2 * s + 1 := by simpa [curAt] using hx
    omega
  | r + 1, hr => by
    obtain ⟨o, ho⟩ : ∃ o, os[r]? = some o := ⟨_, List.getElem?_eq_getElem (by omega)⟩
    rw [curAt_succ ho]
    exact stepE_lt (N.ord o (List.mem_of_getElem? ho)) (even_pow N.lo) (curAt_lt N hs r (by omega))
def fwdAt (os : List (List Nat)) (s r : Nat) : List (List Nat) := (os.take r).foldl (fun c o => ext o c) [[2 * s], [2 * s + 1]]
theorem fwdAt_succ {os : List (List Nat)} {s r : Nat} {o : List Nat} (h : os[r]? = some o) : fwdAt os s (r + 1) = ext o (fwdAt os s r) := by
  unfold fwdAt
  rw [List.take_add_one, h, List.foldl_append]
  rfl
theorem fwdAt_all (os : List (List Nat)) (s : Nat) : fwdAt os s os.length = fwd os s := by
  unfold fwdAt
  rw [List.take_length]
  rfl
theorem fwdAt_ok {b : Nat} {os : List (List Nat)} (N : Net b os) {s : Nat} (hs : s < 2 ^ (b - 1)) (r : Nat) (hr : r ≤ os.length) : WaysOk (2 ^ b) (1 + r) (fwdAt os s r) := by
  have h := foldl_ok (even_pow N.lo) (os.take r) (n := 1) (by omega) (fun o ho => N.ord o (List.mem_of_mem_take ho)) (start_ok N.lo hs)
  rw [List.length_take, Nat.min_eq_left hr] at h
  exact h
theorem fwdAt_len (os : List (List Nat)) (s r : Nat) (hr : r ≤ os.length) : (fwdAt os s r).length = 2 ^ (r + 1) := by
  unfold fwdAt
  rw [foldl_len, List.length_take, Nat.min_eq_left hr, Nat.pow_succ]
  rfl
theorem ban_ones {b : Nat} {os : List (List Nat)} (B : Ban b os) {s : Nat} (hs : s < 2 ^ (b - 1)) (w : Nat) (hw : w < 2 ^ b) : (endsF os s).count w = 1 := by
  rw [List.perm_iff_count.mp (B s hs) w]
  rw [List.Nodup.count List.nodup_range, if_pos (List.mem_range.mpr hw)]
theorem half_lt {b x : Nat} (hb : 1 ≤ b) (hx : x < 2 ^ b) : x / 2 < 2 ^ (b - 1) := by
  have := pow_half hb
  omega
theorem sub_mod (x : Nat) : x - x % 2 = 2 * (x / 2) := by omega

/-! ### renamed nets -/
/-- h leads wires to wires, the switches as n leads them, each once -/
structure Sw (W : Nat) (h n : Nat → Nat) : Prop where
  lt : ∀ x, x < W → h x < W
  half : ∀ x, x < W → h x / 2 = n (x / 2)
  inj : ∀ x y, x < W → y < W → h x = h y → x = y
theorem pair_perm {a b s : Nat} (h1 : a / 2 = s) (h2 : b / 2 = s) (h3 : a ≠ b) : [a, b].Perm [2 * s, 2 * s + 1] := by
  rcases Nat.mod_two_eq_zero_or_one a with e | e <;> rcases Nat.mod_two_eq_zero_or_one b with e' | e'
  · omega
  · have e1 : a = 2 * s := by omega
    have e2 : b = 2 * s + 1 := by omega
    rw [e1, e2]
  · have e1 : a = 2 * s + 1 := by omega
    have e2 : b = 2 * s := by omega
    rw [e1, e2]
    exact List.Perm.swap _ _ _
  · omega
theorem Sw.pair {W : Nat} {h n : Nat → Nat} (S : Sw W h n) (he : W % 2 = 0) {s : Nat} (hs : 2 * s < W) : [h (2 * s), h (2 * s + 1)].Perm [2 * n s, 2 * n s + 1] := by
  refine pair_perm ?_ ?_ fun e => ?_
  · rw [S.half _ hs]
    congr 1
    omega
  · rw [S.half _ (by omega)]
    congr 1
    omega
  · have := S.inj _ _ hs (by omega) e
    omega
/-- a row of the renamed net -/
def Rowed (W : Nat) (p d : List Nat) (h n' : Nat → Nat) : Prop := ∀ x, x < W → ng d (h x) / 2 = n' (ng p x / 2)
theorem step_ren {W : Nat} {p d : List Nat} {h n h' n' : Nat → Nat} (he : W % 2 = 0) (hp : Ord W p) (S' : Sw W h' n') (R : Rowed W p d h n') {cur : List Nat} (hc : ∀ x ∈ cur, x < W) : (stepE d (cur.map h)).Perm ((stepE p cur).map h') := by
  induction cur with
  | nil => exact List.Perm.refl _
  | cons x r ih =>
    have hx := hc x List.mem_cons_self
    have ih' := ih fun y hy => hc y (List.mem_cons_of_mem _ hy)
    have e1 : stepE d ((x :: r).map h) = nxt d (h x) ++ stepE d (r.map h) := by
      unfold stepE
      rw [List.map_cons, List.flatMap_cons]
    have e2 : (stepE p (x :: r)).map h' = (nxt p x).map h' ++ (stepE p r).map h' := by
      unfold stepE
      rw [List.flatMap_cons, List.map_append]
    rw [e1, e2]
    refine List.Perm.append ?_ ih'
    have hlt := hp.ng_lt hx
    have q := (S'.pair he (s := ng p x / 2) (by omega)).symm
    have e3 : nxt d (h x) = [2 * n' (ng p x / 2), 2 * n' (ng p x / 2) + 1] := by
      unfold nxt
      rw [sub_mod, R x hx]
    have e4 : (nxt p x).map h' = [h' (2 * (ng p x / 2)), h' (2 * (ng p x / 2) + 1)] := by
      unfold nxt
      rw [sub_mod]
      rfl
    rw [e3, e4]
    exact q
/-- rows renamed one behind the other: h ahead of the first one, hl behind the last one -/
inductive Ren (W : Nat) : List (List Nat) → List (List Nat) → (Nat → Nat) → (Nat → Nat) → Prop
  | nil (h : Nat → Nat) : Ren W [] [] h h
  | cons {p d : List Nat} {ps ds : List (List Nat)} {h h' hl n' : Nat → Nat} : Ord W p → Sw W h' n' → Rowed W p d h n' → Ren W ps ds h' hl → Ren W (p :: ps) (d :: ds) h hl
theorem Ren.ends {W : Nat} (he : W % 2 = 0) : ∀ {ps ds : List (List Nat)} {h hl : Nat → Nat}, Ren W ps ds h hl → ∀ {c d : List Nat}, (∀ x ∈ c, x < W) → d.Perm (c.map h) → (ds.foldl (fun c o => stepE o c) d).Perm ((ps.foldl (fun c o => stepE o c) c).map hl)
  | _, _, _, _, .nil h, c, d, _, q => q
  | _, _, h, hl, .cons (p := p) (d := dd) hp S' R r, c, d, hc, q => by
    rw [List.foldl_cons, List.foldl_cons]
    exact r.ends he (stepE_lt hp he hc) ((stepE_perm dd q).trans (step_ren (n := fun x => x) he hp S' R hc))
theorem perm_of_sub {α : Type} [DecidableEq α] : ∀ {l m : List α}, l.Nodup → (∀ x ∈ l, x ∈ m) → m.length ≤ l.length → l.Perm m
  | [], m, _, _, h => by
    have : m = [] := List.length_eq_zero_iff.mp (by simpa using h)
    rw [this]
  | a :: l, m, nd, sub, h => by
    have ha : a ∈ m := sub a List.mem_cons_self
    obtain ⟨n1, n2⟩ := List.nodup_cons.mp nd
    have q : l.Perm (m.erase a) := perm_of_sub n2 (fun x hx => (List.mem_erase_of_ne (fun e : x = a => n1 (by rw [← e]; exact hx))).mpr (sub x (List.mem_cons_of_mem _ hx))) (by
      rw [List.length_erase_of_mem ha]
      rw [List.length_cons] at h
      omega)
    exact (q.cons a).trans (List.perm_cons_erase ha).symm
theorem map_range_perm {W : Nat} {h : Nat → Nat} (lt : ∀ x, x < W → h x < W) (inj : ∀ x y, x < W → y < W → h x = h y → x = y) : ((List.range W).map h).Perm (List.range W) := by
  have nd : ((List.range W).map h).Nodup := List.pairwise_map.mpr (List.Pairwise.imp_of_mem (fun {x y} hx hy hne e => hne (inj x y (List.mem_range.mp hx) (List.mem_range.mp hy) e)) List.nodup_range)
  have sub : ∀ x ∈ (List.range W).map h, x ∈ List.range W := by
    intro y hy
    obtain ⟨x, hx, rfl⟩ := List.mem_map.mp hy
    exact List.mem_range.mpr (lt x (List.mem_range.mp hx))
  exact perm_of_sub nd sub (by simp)
theorem ban_ren {b : Nat} {ps ds : List (List Nat)} {h hl n nl : Nat → Nat} (hb : 1 ≤ b) (B : Ban b ps) (R : Ren (2 ^ b) ps ds h hl) (S : Sw (2 ^ b) h n) (Sl : Sw (2 ^ b) hl nl) (sur : ∀ s, s < 2 ^ (b - 1) → ∃ t, t < 2 ^ (b - 1) ∧ n t = s) : Ban b ds := by
  intro s hs
  obtain ⟨t, ht, rfl⟩ := sur s hs
  have ph := pow_half hb
  have he := even_pow hb
  have q := R.ends he (c := [2 * t, 2 * t + 1]) (d := [2 * n t, 2 * n t + 1]) (fun x hx => by
    have : x = 2 * t ∨ x = 2 * t + 1 := by simpa using hx
    omega) (S.pair he (by omega)).symm
  exact (q.trans ((B t ht).map hl)).trans (map_range_perm Sl.lt Sl.inj)
end K90
/-! rules of my own over the layer -/
namespace K90
open PySem PySem.Spec PyProof.Rows L2
abbrev St := L2.St
def topS (i : Nat) : Stmt := PySem.Challenge.pw_bitswitches_k90_whole_parting_demands.main.body.getD i (.Pass ⟨0, 0, 0, 0⟩)

/-! ### a def that stands and keeps a promise -/
structure DefAt (K : PySem.W.Frag) (mg : Str → Option Value) (x : Str) (st : Stmt) (ps : List Str) (f : Addr) (fd : FuncData) : Prop where
  fn : Fun K x x st f fd
  gl : mg x = some (.ref f)
  bn : Binds K fd ps []
structure Ready (P : Program) (w : World) (K : PySem.W.Frag) (mg : Str → Option Value) (base : Heap) (k : Nat) (x : Str) (ps : List Str) (sp : Sp) : Prop where
  ex : ∃ (f : Addr) (fd : FuncData), FnOk P w K mg base CX0 k f fd ps sp ∧ mg x = some (.ref f) ∧ PySem.W.keepIn K (.ref f) = true ∧ Binds K fd ps []
theorem DefAt.ready {P : Program} {w : World} {K : PySem.W.Frag} {mg : Str → Option Value} {base : Heap} {k : Nat} {x : Str} {st : Stmt} {ps : List Str} {sp : Sp} {f : Addr} {fd : FuncData} (D : DefAt K mg x st ps f fd)
    (h : FnOk P w K mg base CX0 k f fd ps sp) : Ready P w K mg base k x ps sp := ⟨f, fd, h, D.gl, D.fn.kp, D.bn⟩
section
variable {X : Cx} {k : Nat} {x : Str} {ps : List Str} {sp : Sp} {p pos : Pos} {e : Expr} {es : List Expr} {t : TA}
theorem pe_rd (R : Ready X.prog X.w X.K X.mg X.base k x ps sp) (hr : Room k X.A) (hg : Gl X x) (ha : PA X (e :: es) t) (hdb : (x == ("__debug__" : Str)) = false := by decide)
    (he : starEach (e :: es) X.env = (false, eval e X.env) :: starEach es X.env := by rfl) (hpl : (backTo pos (starEach es X.env)).any (·.1) = false := by rfl) :
    PE X (.Call (.Name x p) (e :: es) [] pos) (tCall sp [] E0 t) := by
  obtain ⟨f, fd, F, m, kp, b⟩ := R.ex
  exact pe_call F hr hg m kp b .nil pass0 ha hdb he hpl
theorem pe_rd0 (R : Ready X.prog X.w X.K X.mg X.base k x ps sp) (hr : Room k X.A) (hg : Gl X x) (hdb : (x == ("__debug__" : Str)) = false := by decide) :
    PE X (.Call (.Name x p) [] [] pos) (tCall sp [] E0 tNil) := by
  obtain ⟨f, fd, F, m, kp, b⟩ := R.ex
  exact pe_call0 F hr hg m kp b .nil pass0 hdb
end

/-! ### an item of a list, read for op= -/
def rGetL (K : PySem.W.Frag) : V → V → Hp → VK → Prop := fun o i H Q => ∃ (p : Addr) (xs : List V) (j : Nat) (v : V), o = .ref p ∧ i = .int (j : Nat) ∧ SqL K H p xs ∧ xs[j]? = some v ∧ Q v H
theorem get_list {X : Cx} : PGet X (rGetL X.K) := by
  intro pins s σ H o i ov iv Q I r1 r2 h
  obtain ⟨p, xs, j, v, rfl, rfl, hq, hv, q⟩ := h
  cases r1
  obtain ⟨t, rfl⟩ := r2
  obtain ⟨its, rv, pl, hz⟩ := I.list hq
  obtain ⟨u, hu, ru⟩ := rv.get hv
  have hj : j < xs.length := (List.getElem?_eq_some_iff.mp hv).1
  have hl := rv.length
  have h63 := line63
  refine wpAny_getItem_list pl.isList (by omega) (by omega) (x := u) ?_ ⟨v, H, I, ru, q⟩
  rw [Int.toNat_natCast]
  simpa using hu

/-! ### enumerate(tuple) -/
set_option maxHeartbeats 4000000 in
theorem enum_new_tuple (l : Addr) (items : Array Value) :
    Meets (Builtin.«enumerate.__new__» ⟨[.type "enumerate", .ref l], []⟩) (fun _ R s => s.heap.IsTuple l items ∧
      R (.ok (.ret (.ref (s.heap.push { cls := .type "tuple_iterator", data := .fields #[.ref l, .int 0 0] }).objs.size)))
        { s with heap := (s.heap.push { cls := .type "tuple_iterator", data := .fields #[.ref l, .int 0 0] }).push { cls := .type "enumerate", data := .fields #[.none, .bool false, .ref s.heap.objs.size, rawInt 0, .none, .none] } }) :=
  .of_wp fun prog w A R s ⟨h1, h⟩ => by
    obtain ⟨hp, g, d, tk, os⟩ := s
    have hsub := sub_enumerate
    have q1 : ∀ {A' : Around} {E : Value → Shared → Prop} {Q : Value → Shared → Prop}, Q (.ref hp.objs.size) ⟨hp.push { cls := .type "tuple_iterator", data := .fields #[.ref l, .int 0 0] }, g, d, tk, os⟩ →
        wpAny (model prog w) A' (pyIter (.ref l)) Q E ⟨hp, g, d, tk, os⟩ := fun q => (begins_tuple l items).iter prog w _ _ ⟨hp, g, d, tk, os⟩ _ h1 q
    wp_walk using q1
    refine wpAny_stack_any fun st => wpAny_pure ?_
    split
    · rename_i c _ _ _ _ _
      cases hc : (c == Value.type "enumerate") with
      | true =>
        wp_walk using q1
        exact ⟨_, rfl, h⟩
      | false =>
        wp_walk using q1
        exact ⟨_, rfl, h⟩
    · wp_walk using q1
      exact ⟨_, rfl, h⟩
theorem call_enum_tuple {prog : Program} {w : World} {A : Around} {E : Value → Shared → Prop} {s : Shared} {l : Addr} {items : Array Value} {Q : Value → Shared → Prop} (hT : s.heap.IsTuple l items)
    (h : ∀ h' : Heap, IsEnum h' (s.heap.objs.size + 1) s.heap.objs.size 0 .none → h'.IsTupleIter s.heap.objs.size l 0 → (∀ b o, s.heap.get? b = some o → h'.get? b = some o) → Q (.ref (s.heap.objs.size + 1)) { s with heap := h' }) :
    wpAny (model prog w) A (call (.type "enumerate") [.ref l]) Q E s := by
  have hs : (s.heap.push { cls := .type "tuple_iterator", data := .fields #[.ref l, .int 0 0] }).objs.size = s.heap.objs.size + 1 := Heap.size_push ..
  refine callType_new F.called_enumerate (by decide) (F.typeCall_enumerate_1 _) (F.newCall_enumerate_1 _) (fun obj => F.args_object_init_2 obj _) F.entry_enumerate_new (enum_new_tuple l items) ⟨hT, ?_⟩
  show _ ∧ _
  rw [hs]
  have he := Heap.get?_push_size (s.heap.push { cls := .type "tuple_iterator", data := .fields #[.ref l, .int 0 0] }) (o := { cls := .type "enumerate", data := .fields #[.none, .bool false, .ref s.heap.objs.size, rawInt 0, .none, .none] }) rfl
  rw [hs] at he
  exact ⟨⟨_, he, rfl⟩, h _ he ⟨_, Heap.get?_push_of_some _ (Heap.get?_push_size _ rfl), rfl, rfl⟩ fun b o x => Heap.get?_push_of_some _ (Heap.get?_push_of_some _ x)⟩
/-- the tuple at a, each item in a new pair -/
def IteT (K : PySem.W.Frag) (a : Addr) : It where
  go := fun i H => ∃ (xs : List V) (x : V), SqT K H a xs ∧ xs[i]? = some x
  yld := fun i H v H' => ∃ T x, v = .ref T ∧ H T = none ∧ H' = upd H T (.tup [.int (i : Nat), x]) ∧ ∀ xs, SqT K H a xs → xs[i]? = some x
  stop := fun i H => ∃ xs : List V, SqT K H a xs ∧ xs.length = i
theorem ne_iter {h : Heap} {a b : Addr} {items : Array Value} {i : Nat} (p : h.IsTuple a items) (q : h.IsTupleIter b a i) : a ≠ b := by
  rintro rfl
  obtain ⟨o, e1, c1, _⟩ := p
  obtain ⟨o', e2, c2, _⟩ := q
  rw [e1] at e2
  cases e2
  rw [c1] at c2
  injection c2 with z
  exact absurd z (by decide)
theorem ne_enum {h : Heap} {a e it : Addr} {items : Array Value} {i : Int} {old : Value} (p : h.IsTuple a items) (q : IsEnum h e it i old) : a ≠ e := by
  rintro rfl
  obtain ⟨o, e1, c1, n, d1⟩ := p
  have q' : h.get? a = some { cls := .type "enumerate", data := .fields #[.none, .bool false, .ref it, rawInt i, .none, old] } := q
  rw [e1] at q'
  have z := congrArg Obj.cls (Option.some.inj q')
  rw [c1] at z
  injection z with z
  exact absurd z (by decide)
theorem turn_enumT {P : Program} {w : World} {K : PySem.W.Frag} {elts : List Expr} {kk : Nat} {tpos : Pos} (a e it : Addr) :
    Turn P w K (.Tuple elts kk tpos) (IteT K a) [e, it] e (fun i h => (∃ old, IsEnum h e it ((i : Nat) : Int) old) ∧ h.IsTupleIter it a i ∧ e ≠ it) where
  mem := List.mem_cons_self
  obj := fun i h ⟨⟨old, he⟩, ⟨o, ho, _, hd⟩, _⟩ b hb => by
    rcases List.mem_cons.mp hb with z | z
    · subst z
      exact ⟨_, he, fun v q => nomatch q⟩
    · have z' : b = it := by simpa using z
      subst z'
      exact ⟨o, ho, fun v q => by rw [hd] at q; cases q⟩
  keep := fun i h h' ⟨⟨old, he⟩, hi, hne⟩ k => ⟨⟨old, k e (by simp) _ he⟩, hi.at fun o q => k it (by simp) o q, hne⟩
  item := by
    intro X hP hw hK hc i pins s σ H E I hf st hg
    subst hP hw hK
    obtain ⟨⟨old, he⟩, hit, hne⟩ := st
    obtain ⟨xs, x, hq, hx⟩ := hg
    obtain ⟨its, rv, p, hz⟩ := I.tuple hq
    obtain ⟨u, hu, ru⟩ := rv.get hx
    have hT : s.heap.IsTuple a its.toArray := p
    have ae : a ≠ e := ne_enum hT he
    have ai : a ≠ it := ne_iter hT hit
    have hel : e < s.heap.objs.size := Heap.lt_size he
    have hil : it < s.heap.objs.size := by
      obtain ⟨_, q, _⟩ := hit
      exact Heap.lt_size q
    have hlt : i < its.toArray.size := by
      have h1 := (List.getElem?_eq_some_iff.mp hu).1
      simpa using h1
    have hni : e ∉ [it, a] := fun z => by
      rcases List.mem_cons.mp z with z | z
      · exact hne z
      · exact ae (by simpa using z : e = a).symm
    refine wpAny_pyNext_enum_itemD (Draws.tuple (A := X.A.in1) (show X.A.in1.handled = none from I.ok.hd hc) it a ai its.toArray) he ⟨hit, hT⟩ hlt hne hni fun x' h' tk hx' ho hs' hT' hsz hk => ?_
    have ex : x' = u := by
      have h2 : its[i]? = some x' := by simpa using hx'
      rw [hu] at h2
      exact (Option.some.inj h2).symm
    subst ex
    refine ⟨_, rfl, wpAny_letOwnedTupleGo_enum (s := { s with heap := h', toks := tk + 1 }) ho fun h2 he2 sb => ?_⟩
    have hT2 : h2.get? s.heap.objs.size = some { cls := .type "tuple", data := .seq #[.int i tk, x'] } := (sb.2 _ (Nat.ne_of_gt hel)).trans hT'
    have new : ObjOk X.prog X.w (upd H s.heap.objs.size (.tup [.int (i : Nat), x])) h2 s.heap.objs.size (.tup [.int (i : Nat), x]) :=
      ⟨(by decide : 2 ≤ sizeLine), [.int i tk, x'], .cons ⟨_, rfl⟩ (.cons ru .nil), ⟨_, hT2, rfl, _, rfl⟩⟩
    have J : Inv X pins σ (upd H s.heap.objs.size (.tup [.int (i : Nat), x])) { s with heap := h2, toks := tk + 1 } := by
      refine I.turnedNew (ch := [e, it]) (fun b ob hb q => ?_) hf (Nat.le_refl _) new
      have b1 : b ≠ e := fun z => hb (by simp [z])
      have b2 : b ≠ it := fun z => hb (by simp [z])
      exact (sb.2 b b1).trans (hk b ob b1 b2 q)
    refine ⟨.ref s.heap.objs.size, _, J, rfl, ⟨_, x, rfl, I.hok.fresh (Nat.le_refl _), rfl, fun ys hy => by rw [I.tuple_inj hy hq]; exact hx⟩, ⟨⟨x', ?_⟩, hs'.1.at fun o q => (sb.2 it (Ne.symm hne)).trans q, hne⟩, fun b hb => ?_⟩
    · rw [show ((i + 1 : Nat) : Int) = (i : Int) + 1 by omega]
      exact he2
    · have hlb : b < s.heap.objs.size := by
        rcases List.mem_cons.mp hb with z | z
        · rw [z]
          exact hel
        · rw [show b = it by simpa using z]
          exact hil
      rw [upd_ne (Nat.ne_of_lt hlb)]
      exact (hf b hb).1
  done := by
    intro X hP hw hK hc i pins s σ H E I hf st hg
    subst hP hw hK
    obtain ⟨⟨old, he⟩, hit, hne⟩ := st
    obtain ⟨xs, hq, hx⟩ := hg
    obtain ⟨its, rv, p, hz⟩ := I.tuple hq
    have hT : s.heap.IsTuple a its.toArray := p
    obtain ⟨f0, f1, f2, f3, f4, f5⟩ := hf it (by simp)
    have hl := rv.length
    have hi : i = its.toArray.size := by
      rw [List.size_toArray]
      omega
    subst hi
    exact wpAny_pyNext_enum_endD (Draws.tuple (A := X.A.in1) (show X.A.in1.handled = none from I.ok.hd hc) it a (ne_iter hT hit) its.toArray) he ⟨hit, hT⟩ fun h' eb => ⟨rfl, I.turned (t' := s.toks) (fun b o hb q => eb b o hb q) f0 f1 f3 f4 f5⟩
  self := fun A i s Q E ⟨⟨_, he⟩, _⟩ h => wpAny_pyIter_enum he h
def iEnumT (K : PySem.W.Frag) (ta : TA) : TI := fun σ H R => ta σ H fun vs H1 => ∃ a xs, vs = [.ref a] ∧ SqT K H1 a xs ∧ R (IteT K a) H1
theorem pi_enumT {X : Cx} {e : Expr} {ta : TA} {p pos tpos : Pos} {elts : List Expr} {kk : Nat} (hg : Gl X "enumerate") (hm : X.mg "enumerate" = none) (ha : PA X [e] ta) (hs : starEach [e] X.env = [(false, eval e X.env)] := by rfl) :
    PI X (.Tuple elts kk tpos) (.Call (.Name "enumerate" p) [e] [] pos) (iEnumT X.K ta) := by
  refine ⟨fun pins s σ H R I h => ?_⟩
  refine Call_ (ld_blt I hg hm boot_enumerate (PyProof.Rows.callWith_type1 (thn (ha.run pos pins s σ H _ I h) fun us s1 ⟨vs, H1, I1, r1, q1⟩ => ?_) hs rfl))
  obtain ⟨a, xs, rfl, hq, q⟩ := q1
  cases r1 with
  | cons r rr =>
    cases rr
    cases r
    obtain ⟨its, rv, pt, hz⟩ := I1.tuple hq
    refine call_enum_tuple (show s1.heap.IsTuple a its.toArray from pt) fun h' he hit hk => wpAny_pyIter_enum he ?_
    refine ⟨s1.heap.objs.size + 1, [s1.heap.objs.size + 1, s1.heap.objs.size], _, _, H1, rfl, I1.kept (t' := s1.toks) hk, turn_enumT a (s1.heap.objs.size + 1) s1.heap.objs.size, ⟨⟨.none, he⟩, hit, Nat.succ_ne_self _⟩, fun b hb => ?_, q⟩
    have hle : s1.heap.objs.size ≤ b := by
      have hb' : b = s1.heap.objs.size + 1 ∨ b = s1.heap.objs.size := by simpa using hb
      rcases hb' with z | z <;> rw [z]
      · exact Nat.le_succ _
      · exact Nat.le_refl _
    exact I1.fpOk hle (I1.hok.fresh hle)
theorem walk_enumT {K : PySem.W.Frag} {a : Addr} {xs : List V} : Walk (IteT K a) xs.length (fun H => SqT K H a xs) (YPair (fun i => some (.int (i : Nat))) (fun i => xs[i]?)) := by
  refine ⟨fun i _ hi q => ⟨xs, xs[i], q, List.getElem?_eq_getElem hi⟩, fun _ q => ⟨xs, q, rfl⟩, fun i H v H' _ q y => ?_⟩
  obtain ⟨T, x, h1, h2, h3, h4⟩ := y
  exact ⟨T, .int (i : Nat), x, h1, h2, h3, rfl, h4 xs q⟩

/-! ### len(set(tuple of ints)) -/
def tLenSetT (K : PySem.W.Frag) (ta : TE) : TE := fun σ H Q => ta σ H fun x H1 => ∃ (l : Addr) (ns : List Int), x = .ref l ∧ SqT K H1 l (ns.map V.int) ∧ ns.length ≤ 1000 ∧ ns.Nodup ∧ Q (.int (ns.length : Nat)) H1
theorem perm_len {a b : List Int} (ha : a.Nodup) (hb : b.Nodup) (h : ∀ k, k ∈ a ↔ k ∈ b) : a.length = b.length := ((List.perm_ext_iff_of_nodup ha hb).mpr h).length_eq
theorem pe_lenSetT {X : Cx} {a : Expr} {ta : TE} {p p2 q pos : Pos} (hg : Gl X "len") (hm : X.mg "len" = none) (hg2 : Gl X "set") (hm2 : X.mg "set" = none) (ha : PE X a ta) (hc : X.calm = true := by rfl)
    (na : starEach [a] X.env = (false, eval a X.env) :: starEach [] X.env := by rfl) : PE X (.Call (.Name "len" p) [.Call (.Name "set" p2) [a] [] q] [] pos) (tLenSetT X.K ta) := by
  refine ⟨fun pins s σ H Q I h => ?_⟩
  refine Call_ (ld_blt I hg hm boot_len (PyProof.Rows.callWith_builtin1 (PyProof.Rows.args_cons ?_ rfl) rfl rfl))
  refine Call_ (ld_blt I hg2 hm2 boot_set (PyProof.Rows.callWith_type1 (PyProof.Rows.args_cons ?_ na) na rfl))
  refine thn (ha.run pins s σ H _ I h) fun v s1 ⟨x, H1, I1, r1, q1⟩ => PyProof.Rows.args_nil ?_
  obtain ⟨l, ns, rfl, hq, hl, hnd, q1⟩ := q1
  cases r1
  obtain ⟨its, rv, pt, hz⟩ := I1.tuple hq
  have hi : IntsAre its.toArray.toList ns := by simpa using RZ.intsAre_vals rv
  refine call_set_tupI ns (I1.ok.hd hc) (show s1.heap.IsTuple l its.toArray from pt) hi (by unfold scanBound; omega) fun h' tk c R1 hcn kk => ?_
  obtain ⟨o, es, ep, t, ho, hex, hdt, g, nd, hm3, hb, hf, hn, hr, hl2⟩ := R1
  have e1 : ns.length = (es.toList.map keyOf).length := perm_len hnd nd fun j => by
    rw [← hm3 j]
    exact decide_eq_true_iff.symm
  have e2 : es.size = ns.length := by
    rw [e1, List.length_map, Array.length_toList]
  have I2 : Inv X pins σ H1 { s1 with heap := h', toks := tk } := I1.kept kk
  refine PyProof.Rows.args_nil ?_
  exact call_len_set ho hex hdt hf (by rw [e2]; omega) ⟨.int (ns.length : Nat), H1, I2.tok _, ⟨_, by rw [e2]⟩, q1⟩

/-! ### comprehensions -/
/-- any comprehension's loop: B says what a turn does -/
theorem out_it {J : It} {n : Nat} {G : Hp → Prop} {Y : Nat → Hp → V → Hp → Prop} (w : Walk J n G Y) {B : V → Hp → (Hp → Prop) → Prop} {H1 : Hp} {Qd : Hp → Prop} (Pv : Nat → Hp → Prop) (h0 : Pv 0 H1) (hG : ∀ i H, i ≤ n → Pv i H → G H)
    (hs : ∀ i x H H', i < n → Pv i H → Y i H x H' → B x H' (Pv (i + 1))) (hd : ∀ H, Pv n H → Qd H) :
    ∃ W : Nat → Nat → Hp → Prop, (∃ m, W 0 m H1) ∧ ∀ i m H, W i m H →
      (J.stop i H ∧ Qd H) ∨ (J.go i H ∧ ∃ Nx : Hp → Prop, (∀ H', Nx H' → ∃ m', m' < m ∧ W (i + 1) m' H') ∧ ∀ x H', J.yld i H x H' → B x H' Nx) := by
  refine ⟨fun i m H => m + i = n ∧ Pv i H, ⟨n, rfl, h0⟩, fun i m H ⟨e, p⟩ => ?_⟩
  have q := hG i H (by omega) p
  rcases Nat.eq_zero_or_pos m with z | z
  · subst z
    have e' : i = n := by omega
    subst e'
    exact .inl ⟨w.stops H q, hd H p⟩
  · have hi : i < n := by omega
    exact .inr ⟨w.goes i H hi q, Pv (i + 1), fun H' p' => ⟨m - 1, by omega, by omega, p'⟩, fun x H' y => hs i x H H' hi p (w.yields i H x H' hi q y)⟩
/-! ### repr of data, where what is under way is known -/
def rReprD (K : PySem.W.Frag) : List V → Hp → VK → Prop := fun xs H Q => ∃ (a : Addr) (d : PyData), xs = [.ref a] ∧ Dp K H (.ref a) d ∧ d.showable = true ∧ d.hasDict = false ∧ d.depth ≤ 40 ∧ d.shown.length ≤ sizeLine ∧ Q (.str d.shown) H
theorem call_reprD {X : Cx} (hgd : X.A.guards = some []) (hu : X.A.units + 64 < cLine) : CallR X (.builtin "repr") (rReprD X.K) := by
  intro pins s σ H xs us Q I r h
  obtain ⟨a, d, rfl, hd, hs, hn, hdp, hz, q⟩ := h
  obtain ⟨u, rfl, ru⟩ := vals1 r
  obtain ⟨as, rd⟩ := Dp.reads I d _ u hd ru
  cases ru
  exact repr_of_reads' rd hs (PyData.noDict_hsm hn) hgd (by omega) (fun _ _ e => e) (fun h' u tk hk => ⟨.str _, H, I.kept (t' := tk) hk, ⟨_, rfl⟩, q⟩) hz
end K90
/-! defs that need to know that no repr is under way; the law's end -/
namespace K90
open PySem PySem.Spec PyProof.Rows L2
/-- a promise kept where no repr is under way -/
def RunG (P : Program) (w : World) (K : PySem.W.Frag) (mg : Str → Option Value) (base : Heap) (k : Nat) (f : Addr) (fd : FuncData) (ps : List Str) (sp : Sp) : Prop :=
  ∀ (A : Around), A.guards = some [] → ∀ (outer : List Env) (s : Shared) (H : Hp) (args : Args) (us : List Value) (vs : List V) (Q : VK) (E : XK), Room k A → Env0 P w K mg base A outer s H → BindsTo s fd args (ps.zip us) → Vals vs us → sp vs H Q E →
    codeAny (model P w) A (.call (.ref f) args) (CR CX0 outer P w H s Q E) s
structure ReadyG (P : Program) (w : World) (K : PySem.W.Frag) (mg : Str → Option Value) (base : Heap) (k : Nat) (x : Str) (ps : List Str) (sp : Sp) : Prop where
  ex : ∃ (f : Addr) (fd : FuncData), (∀ vs H Q E, sp vs H Q E → vs.length = ps.length) ∧ RunG P w K mg base k f fd ps sp ∧ mg x = some (.ref f) ∧ PySem.W.keepIn K (.ref f) = true ∧ Binds K fd ps []
section
variable {P : Program} {w : World} {K : PySem.W.Frag} {mg : Str → Option Value} {base : Heap}
theorem runG_of {x qual : Str} {st : Stmt} {f : Addr} {fd : FuncData} {N ps : List Str} {k : Nat} {sp : Sp} (F : Fun K x qual st f fd) (S : FnScope N ps (defScope st)) (len : ∀ vs H Q E, sp vs H Q E → vs.length = ps.length)
    (hbody : ∀ (cdv : Value) (A : Around) (outer : List Env) (s : Shared) (H : Hp) (vs : List V) (Q : VK) (E : XK), A.guards = some [] → Room k (A.deeper (envOfC qual (defScope st) s.heap.objs.size f cdv)) → sp vs H Q E →
      ∃ t, PSs (cxOf CX0 P w K mg base N qual (defScope st) f cdv A outer s H E).nox (defBody st) t ∧ t { nx := fun _ H' => Q .non H', rt := Q } (start N vs) H) : RunG P w K mg base (k + 1) f fd ps sp := by
  intro A hgd outer s H args us vs Q E hr e0 hb r hsp
  obtain ⟨oc, od, kV, doc, pm, an, cdv, ct, osl, rfl, lk, hcd⟩ := F.ex
  refine StX.run_bnd lk hcd S hr e0 (G := fun vs' H' => vs' = vs ∧ H' = H) (fun A' Ex Q' h => hb _ _ _ _ (h s H vs us e0 Un.refl rfl (fun _ _ z => z) r (len _ _ _ _ hsp) ⟨rfl, rfl⟩)) fun s2 H2 vs' ⟨e1, e2⟩ hr' => ?_
  subst e1 e2
  obtain ⟨t, h, q⟩ := hbody cdv A outer s2 H2 vs' Q E hgd hr' hsp
  exact ⟨t, h.nox, q⟩
end
section
variable {X : Cx} {k : Nat} {x : Str} {ps : List Str} {sp : Sp} {p pos : Pos} {e : Expr} {es : List Expr} {t : TA}
theorem pe_rdG (R : ReadyG X.prog X.w X.K X.mg X.base k x ps sp) (hgd : X.A.guards = some []) (hr : Room k X.A) (hg : Gl X x) (ha : PA X (e :: es) t) (hdb : (x == ("__debug__" : Str)) = false := by decide)
    (he : starEach (e :: es) X.env = (false, eval e X.env) :: starEach es X.env := by rfl) (hpl : (backTo pos (starEach es X.env)).any (·.1) = false := by rfl) :
    PE X (.Call (.Name x p) (e :: es) [] pos) (tCall sp [] E0 t) := by
  obtain ⟨f, fd, hl, F, m, kp, b⟩ := R.ex
  refine ⟨fun pins s σ H Q I h => wpAny_Call_Name_kw (ld_glob I hg m ?_ hdb)⟩
  refine PySem.W.callWith_K (h₀ := X.base) I.ok.mod.kin kp (thn (ha.run pos pins s σ H _ I h) fun us s1 ⟨vs, H1, I1, r, q⟩ => ⟨I1.kIn, ?_⟩) he hpl
  have q' : sp vs H1 Q E0 := by simpa using q
  have hlen : (us ++ []).length = ps.length := by
    rw [List.append_nil, ← r.length]
    exact hl _ _ _ _ q'
  have hb := b s1 us I1.kIn hlen
  rw [List.append_nil] at hb
  refine wpAny_call (codeAny_mono (F X.A hgd X.stack s1 H1 ⟨us, []⟩ us vs Q E0 hr I1.env0 hb r q') fun r' s' hq => ?_)
  match r', hq with
  | .ok (.ret u), hq => exact I1.after hq
  | .ok .next, hq => exact hq.elim
  | .ok .brk, hq => exact hq.elim
  | .ok .cont, hq => exact hq.elim
  | .error _, hq => exact hq.elim
end
/-- the law's call from an abstract heap in which at most the script is tracked -/
theorem law_from {P : Program} {w : World} {K : PySem.W.Frag} {mg mb : Str → Option Value} {k : Nat} {fa a : Addr} {fd : FuncData} {x : Str} {sp : Sp} {s₁ : Shared} {vs : List Value} {H : Hp}
    (KX : K.In s₁.heap) (hns : s₁.heap.Ns mainGlobals mg) (hb : s₁.heap.Ns builtinsNs mb) (hbb : ∀ x : Str, x ≠ "__name__" → mb x = bootBuiltins x) (hlim : s₁.heap.NoLimit) (hg : s₁.gens = #[])
    (ha : s₁.heap.get? a = some { cls := .type "list", data := .seq vs.toArray }) (hr : Room k callerA)
    (F : ∀ base : Heap, K.In base → base.Ns mainGlobals mg → RunG P w K mg base k fa fd [x] sp) (hbind : ∀ (s : Shared) (u : Value), BindsTo s fd ⟨[u], []⟩ [(x, u)])
    (hsp : sp [.ref a] H (fun v _ => v = .bl true) E0) (ok : HOk P w H s₁.heap) (one : ∀ b, H b ≠ none → b = a ∧ K.lookup a = none ∧ ∃ o xs, H b = some (.frz o (.lst xs))) :
    codeAny (model P w) callerA (.call (.ref fa) ⟨[.ref a], []⟩) (fun r s' => r = .ok (.ret (.bool true)) ∧ OldK s₁.heap s'.heap ∧ s'.os = s₁.os ∧ AllBare s'.gens) s₁ := by
  have free : ∀ b : Addr, b ≠ a → H b = none := fun b hb => Classical.byContradiction fun z => hb (one b z).1
  have nsK : ∀ {b : Addr} {m : Str → Option Value}, s₁.heap.Ns b m → (hidT s₁.heap H).Ns b m := by
    rintro b m ⟨o, es, ep, e, d, r⟩
    refine ⟨o, es, ep, hidT_get e (free b fun z => ?_), d, r⟩
    rw [z, ha] at e
    cases e
    exact nomatch (show Data.seq vs.toArray _ = Data.dict es ep from d)
  have kinB : K.In (hidT s₁.heap H) := fun b o e => hidT_get (KX b o e) (Classical.byContradiction fun z => by
    obtain ⟨z1, z2, _⟩ := one b z
    rw [z1, z2] at e
    cases e)
  have md : Mod K mg (hidT s₁.heap H) := ⟨kinB, nsK hns, ⟨mb, nsK hb, hbb⟩, by
    obtain ⟨mc, n1, n2⟩ := hlim
    exact ⟨mc, nsK n1, n2⟩⟩
  have e0 : Env0 P w K mg (hidT s₁.heap H) callerA [] s₁ H :=
    { frames := rfl, mod := md, bs := fun b o e => of_hidT e, bsz := Nat.le_of_eq (hidT_size _ _), funs := trivial, frf := fun b z => (by cases z), hok := ok, bare := .of_eq hg }
  refine codeAny_mono (F _ kinB (nsK hns) callerA rfl [] s₁ H ⟨[.ref a], []⟩ [.ref a] [.ref a] _ _ hr e0 (hbind s₁ _) (.cons rfl .nil) hsp) fun r s' h => ?_
  match r, h with
  | .ok (.ret u), ⟨v, H', os, bare, un, ok', rv, q⟩ =>
    have q1 : v = .bl true := q
    subst q1
    obtain rfl : u = Value.bool true := rv
    refine ⟨rfl, OldK.of_keep fun b o e => ?_, os, bare⟩
    by_cases hz : H b = none
    · exact un.keep b o e hz (fun z => nomatch z) (fun z => nomatch z)
    · obtain ⟨_, _, ob, xs, hz2⟩ := one b hz
      have e1 : s₁.heap.get? b = some ob := (ok b _ hz2).1
      have e2 : s'.heap.get? b = some ob := (ok' b _ (un.frzs b ob _ hz2)).1
      rw [e] at e1
      cases e1
      exact e2
  | .ok .next, h => exact h.elim
  | .ok .brk, h => exact h.elim
  | .ok .cont, h => exact h.elim
  | .error _, h => exact h.elim
theorem law_callG {P : Program} {w : World} {K : PySem.W.Frag} {mg mb : Str → Option Value} {k : Nat} {fa a : Addr} {fd : FuncData} {x : Str} {sp : Sp} {s₁ : Shared} {vs : List Value} {ns : List Int}
    (KX : K.In s₁.heap) (hns : s₁.heap.Ns mainGlobals mg) (hb : s₁.heap.Ns builtinsNs mb) (hbb : ∀ x : Str, x ≠ "__name__" → mb x = bootBuiltins x) (hlim : s₁.heap.NoLimit) (hg : s₁.gens = #[])
    (ha : s₁.heap.get? a = some { cls := .type "list", data := .seq vs.toArray }) (hi : IntsAre vs ns) (hl : ns.length ≤ sizeLine) (hr : Room k callerA)
    (F : ∀ base : Heap, K.In base → base.Ns mainGlobals mg → RunG P w K mg base k fa fd [x] sp) (hbind : ∀ (s : Shared) (u : Value), BindsTo s fd ⟨[u], []⟩ [(x, u)])
    (hsp : ∀ H : Hp, SqL K H a (ns.map V.int) → sp [.ref a] H (fun v _ => v = .bl true) E0) :
    codeAny (model P w) callerA (.call (.ref fa) ⟨[.ref a], []⟩) (fun r s' => r = .ok (.ret (.bool true)) ∧ OldK s₁.heap s'.heap ∧ s'.os = s₁.os ∧ AllBare s'.gens) s₁ := by
  have rv := vals_ints hi
  have hlen := hi.length
  cases hk : K.lookup a with
  | some o =>
    have e := KX a o hk
    rw [ha] at e
    cases e
    refine law_from (H := fun _ => none) KX hns hb hbb hlim hg ha hr F hbind (hsp _ (.inr ⟨_, vs.toArray, _, hk, rfl, rfl, rfl, ?_, by simpa using rv⟩)) (fun b u z => nomatch z) fun b z => absurd rfl z
    rw [List.size_toArray, hlen]
    exact hl
  | none =>
    have e1 : (fun b => if b = a then some (HO.frz { cls := .type "list", data := .seq vs.toArray } (.lst (ns.map V.int))) else none : Hp) a = some (HO.frz { cls := .type "list", data := .seq vs.toArray } (.lst (ns.map V.int))) := if_pos rfl
    refine law_from (H := fun b => if b = a then some (.frz { cls := .type "list", data := .seq vs.toArray } (.lst (ns.map V.int))) else none) KX hns hb hbb hlim hg ha hr F hbind (hsp _ (.inl (.inr ⟨_, e1⟩))) (fun b u z => ?_) fun b z => ?_
    · by_cases hba : b = a
      · subst hba
        rw [e1] at z
        cases z
        exact ⟨ha, by rw [List.length_map]; exact hl, vs, _, rv, ha⟩
      · have z' : (none : Option HO) = some u := by simpa [hba] using z
        cases z'
    · by_cases hba : b = a
      · subst hba
        exact ⟨rfl, hk, _, _, e1⟩
      · exact absurd (if_neg hba) z
theorem walk_ofG {l : PySem.W.OpenLaw} {n k : Nat} {q : Program} {loose : List Str} {XP : (Str → Option Value) → Heap → Prop} {YP : World → Heap → Prop} {d : DefRec} {K : Params → PySem.W.Frag} {sp : PySem.W.Frag → Sp} {x : Str}
    (hn : l.most = some n) (hn2 : n ≤ sizeLine) (hdf : d.params.defaults = []) (hr : Room k callerA) (hY : ∀ (w : World) (h : Heap), YP w h → (K w.params).In h)
    (F : ∀ (w : World) (mg : Str → Option Value) (fa : Addr) (h : Heap), (K w.params).In h → h.Ns mainGlobals mg → mg d.name = some (.ref fa) →
      ∃ fd : FuncData, (∀ (s : Shared) (u : Value), BindsTo s fd ⟨[u], []⟩ [(x, u)]) ∧ ∀ base : Heap, (K w.params).In base → base.Ns mainGlobals mg → RunG l.prog w (K w.params) mg base k fa fd [x] (sp (K w.params)))
    (hsp : ∀ (K : PySem.W.Frag) (H : Hp) (a : Addr) (ns : List Int), ns.length ≤ n → SqL K H a (ns.map V.int) → sp K [.ref a] H (fun v _ => v = .bl true) E0) :
    PySem.W.WalkO q loose XP YP l.row.toRowW d [] (fun f vs => PySem.call f vs) := by
  refine Att.attach_call hn hdf fun w s₀ s₁ mg mb fa o pm cd doc a vs ns G Y ho hd hcd hmg hobj hints hlen hg => ?_
  obtain ⟨fd, hb, hF⟩ := F w mg fa _ (hY w _ Y) G.T.g hmg
  exact law_callG (hY w _ Y) G.T.g G.T.b G.T.builtins G.T.nolimit hg hobj hints (Nat.le_trans hlen hn2) hr hF hb fun H hS => hsp _ H a ns hlen hS
end K90
/-! the defs of the text, their slots, their scopes (printed by gen.py) -/
namespace K90
open PySem PySem.Spec PyProof.Rows L2
abbrev sis_whole : Stmt := topS 7
abbrev Nis_whole : List Str := ["value", "least", "most"]
theorem scis_whole : FnScope Nis_whole ["value", "least", "most"] (defScope sis_whole) := ⟨rfl, rfl, rfl, by decide +kernel, rfl, by decide +kernel, by decide +kernel⟩
abbrev sis_order : Stmt := topS 8
abbrev Nis_order : List Str := ["value", "many", "one"]
theorem scis_order : FnScope Nis_order ["value", "many"] (defScope sis_order) := ⟨rfl, rfl, rfl, by decide +kernel, rfl, by decide +kernel, by decide +kernel⟩
abbrev sneed_net : Stmt := topS 9
abbrev Nneed_net : List Str := ["net", "number", "order"]
theorem scneed_net : FnScope Nneed_net ["net"] (defScope sneed_net) := ⟨rfl, rfl, rfl, by decide +kernel, rfl, by decide +kernel, by decide +kernel⟩
abbrev swires_of : Stmt := topS 10
abbrev Nwires_of : List Str := ["net"]
theorem scwires_of : FnScope Nwires_of ["net"] (defScope swires_of) := ⟨rfl, rfl, rfl, by decide +kernel, rfl, by decide +kernel, by decide +kernel⟩
abbrev snext_wires : Stmt := topS 12
abbrev Nnext_wires : List Str := ["net", "row", "wire", "place"]
theorem scnext_wires : FnScope Nnext_wires ["net", "row", "wire"] (defScope snext_wires) := ⟨rfl, rfl, rfl, by decide +kernel, rfl, by decide +kernel, by decide +kernel⟩
abbrev scounts_from : Stmt := topS 13
abbrev Ncounts_from : List Str := ["net", "begin", "counts", "row", "later", "wire", "many", "far"]
theorem sccounts_from : FnScope Ncounts_from ["net", "begin"] (defScope scounts_from) := ⟨rfl, rfl, rfl, by decide +kernel, rfl, by decide +kernel, by decide +kernel⟩
abbrev sis_banyan_of : Stmt := topS 14
abbrev Nis_banyan_of : List Str := ["net", "wire"]
theorem scis_banyan_of : FnScope Nis_banyan_of ["net"] (defScope sis_banyan_of) := ⟨rfl, rfl, rfl, by decide +kernel, rfl, by decide +kernel, by decide +kernel⟩
abbrev sneed_banyan : Stmt := topS 16
abbrev Nneed_banyan : List Str := ["net"]
theorem scneed_banyan : FnScope Nneed_banyan ["net"] (defScope sneed_banyan) := ⟨rfl, rfl, rfl, by decide +kernel, rfl, by decide +kernel, by decide +kernel⟩
abbrev sways_table : Stmt := topS 18
abbrev Nways_table : List Str := ["net", "found", "first", "rows", "row", "way", "wire"]
theorem scways_table : FnScope Nways_table ["net"] (defScope sways_table) := ⟨rfl, rfl, rfl, by decide +kernel, rfl, by decide +kernel, by decide +kernel⟩
abbrev sis_apart : Stmt := topS 19
abbrev Nis_apart : List Str := ["way", "others", "other", "row", "wire"]
theorem scis_apart : FnScope Nis_apart ["way", "others"] (defScope sis_apart) := ⟨rfl, rfl, rfl, by decide +kernel, rfl, by decide +kernel, by decide +kernel⟩
abbrev sneed_pair : Stmt := topS 21
abbrev Nneed_pair : List Str := ["net", "other"]
theorem scneed_pair : FnScope Nneed_pair ["net", "other"] (defScope sneed_pair) := ⟨rfl, rfl, rfl, by decide +kernel, rfl, by decide +kernel, by decide +kernel⟩
abbrev sfirst_parting : Stmt := topS 22
abbrev Nfirst_parting : List Str := ["net", "other", "one", "two", "pairs", "number", "pair", "far", "some"]
theorem scfirst_parting : FnScope Nfirst_parting ["net", "other"] (defScope sfirst_parting) := ⟨rfl, rfl, rfl, by decide +kernel, rfl, by decide +kernel, by decide +kernel⟩
abbrev sparting_demands : Stmt := topS 23
abbrev Nparting_demands : List Str := ["net", "other"]
theorem scparting_demands : FnScope Nparting_demands ["net", "other"] (defScope sparting_demands) := ⟨rfl, rfl, rfl, by decide +kernel, rfl, by decide +kernel, by decide +kernel⟩
abbrev sdo_pass_alike : Stmt := topS 24
abbrev Ndo_pass_alike : List Str := ["net", "other"]
theorem scdo_pass_alike : FnScope Ndo_pass_alike ["net", "other"] (defScope sdo_pass_alike) := ⟨rfl, rfl, rfl, by decide +kernel, rfl, by decide +kernel, by decide +kernel⟩
abbrev s_law_mixed : Stmt := topS 26
abbrev N_law_mixed : List Str := ["_law_cell", "_law_n", "_law_blend"]
theorem sc_law_mixed : FnScope N_law_mixed ["_law_cell", "_law_n"] (defScope s_law_mixed) := ⟨rfl, rfl, rfl, by decide +kernel, rfl, by decide +kernel, by decide +kernel⟩
abbrev s_law_folded : Stmt := topS 27
abbrev N_law_folded : List Str := ["_law_script", "_law_n", "_law_found", "_law_cell"]
theorem sc_law_folded : FnScope N_law_folded ["_law_script"] (defScope s_law_folded) := ⟨rfl, rfl, rfl, by decide +kernel, rfl, by decide +kernel, by decide +kernel⟩
abbrev s_law_draw : Stmt := topS 28
abbrev N_law_draw : List Str := ["_law_m", "_law_limit", "_law_n", "_law_lot", "_law_here", "_law_cell"]
theorem sc_law_draw : FnScope N_law_draw ["_law_m", "_law_limit"] (defScope s_law_draw) := ⟨rfl, rfl, rfl, by decide +kernel, rfl, by decide +kernel, by decide +kernel⟩
abbrev s_law_begun : Stmt := topS 29
abbrev N_law_begun : List Str := ["_law_script", "_law_m", "_law_cell"]
theorem sc_law_begun : FnScope N_law_begun ["_law_script"] (defScope s_law_begun) := ⟨rfl, rfl, rfl, by decide +kernel, rfl, by decide +kernel, by decide +kernel⟩
abbrev s_law_like : Stmt := topS 30
abbrev N_law_like : List Str := ["_law_answer", "_law_due"]
theorem sc_law_like : FnScope N_law_like ["_law_answer", "_law_due"] (defScope s_law_like) := ⟨rfl, rfl, rfl, by decide +kernel, rfl, by decide +kernel, by decide +kernel⟩
abbrev s_law_order : Stmt := topS 31
abbrev N_law_order : List Str := ["_law_m", "_law_many", "_law_found", "_law_number", "_law_spot"]
theorem sc_law_order : FnScope N_law_order ["_law_m", "_law_many"] (defScope s_law_order) := ⟨rfl, rfl, rfl, by decide +kernel, rfl, by decide +kernel, by decide +kernel⟩
abbrev s_law_halving : Stmt := topS 32
abbrev N_law_halving : List Str := ["_law_bits", "_law_rows", "_law_row", "_law_size", "_law_order_here", "_law_wire", "_law_front", "_law_back"]
theorem sc_law_halving : FnScope N_law_halving ["_law_bits"] (defScope s_law_halving) := ⟨rfl, rfl, rfl, by decide +kernel, rfl, by decide +kernel, by decide +kernel⟩
abbrev s_law_banyan : Stmt := topS 33
abbrev N_law_banyan : List Str := ["_law_m", "_law_bits", "_law_base", "_law_half", "_law_row", "_law_names", "_law_rows", "_law_near", "_law_far", "_law_order_here", "_law_wire", "_law_place", "_law_own", "_law_other", "_law_here", "_law_k"]
theorem sc_law_banyan : FnScope N_law_banyan ["_law_m", "_law_bits"] (defScope s_law_banyan) := ⟨rfl, rfl, rfl, by decide +kernel, rfl, by decide +kernel, by decide +kernel⟩
abbrev s_law_ringed : Stmt := topS 34
abbrev N_law_ringed : List Str := ["_law_first", "_law_last"]
theorem sc_law_ringed : FnScope N_law_ringed [] (defScope s_law_ringed) := ⟨rfl, rfl, rfl, by decide +kernel, rfl, by decide +kernel, by decide +kernel⟩
abbrev s_law_ways : Stmt := topS 35
abbrev N_law_ways : List Str := ["_law_net", "_law_begin", "_law_base", "_law_found", "_law_order_here", "_law_longer", "_law_way", "_law_place"]
theorem sc_law_ways : FnScope N_law_ways ["_law_net", "_law_begin"] (defScope s_law_ways) := ⟨rfl, rfl, rfl, by decide +kernel, rfl, by decide +kernel, by decide +kernel⟩
abbrev s_law_apart : Stmt := topS 36
abbrev N_law_apart : List Str := ["_law_way", "_law_others", "_law_other", "_law_one", "_law_two"]
theorem sc_law_apart : FnScope N_law_apart ["_law_way", "_law_others"] (defScope s_law_apart) := ⟨rfl, rfl, rfl, by decide +kernel, rfl, by decide +kernel, by decide +kernel⟩
abbrev s_law_table : Stmt := topS 37
abbrev N_law_table : List Str := ["_law_net", "_law_found", "_law_begin", "_law_way"]
theorem sc_law_table : FnScope N_law_table ["_law_net"] (defScope s_law_table) := ⟨rfl, rfl, rfl, by decide +kernel, rfl, by decide +kernel, by decide +kernel⟩
abbrev s_law_demands : Stmt := topS 38
abbrev N_law_demands : List Str := ["_law_m", "_law_net", "_law_tries", "_law_ins", "_law_outs", "_law_turn", "_law_begin", "_law_end"]
theorem sc_law_demands : FnScope N_law_demands ["_law_m", "_law_net", "_law_tries"] (defScope s_law_demands) := ⟨rfl, rfl, rfl, by decide +kernel, rfl, by decide +kernel, by decide +kernel⟩
abbrev s_law_passes : Stmt := topS 39
abbrev N_law_passes : List Str := ["_law_net", "_law_some", "_law_own", "_law_begin", "_law_end", "_law_way", "_law_one"]
theorem sc_law_passes : FnScope N_law_passes ["_law_net", "_law_some"] (defScope s_law_passes) := ⟨rfl, rfl, rfl, by decide +kernel, rfl, by decide +kernel, by decide +kernel⟩
abbrev s_law_parting : Stmt := topS 40
abbrev N_law_parting : List Str := ["_law_net", "_law_other", "_law_ways_here", "_law_near", "_law_far", "_law_is_so", "_law_some"]
theorem sc_law_parting : FnScope N_law_parting ["_law_net", "_law_other"] (defScope s_law_parting) := ⟨rfl, rfl, rfl, by decide +kernel, rfl, by decide +kernel, by decide +kernel⟩
abbrev slaw : Stmt := topS 41
abbrev Nlaw : List Str := ["_law_script", "_law_m", "_law_turn", "_law_bits", "_law_net", "_law_other", "_law_pick", "_law_first", "_law_kept", "_law_due", "_law_told_so", "_law_again", "_law_some", "_law_four", "_law_three", "_law_ring"]
theorem sclaw : FnScope Nlaw ["_law_script"] (defScope slaw) := ⟨rfl, rfl, rfl, by decide +kernel, rfl, by decide +kernel, by decide +kernel⟩
end K90
/-! what stands in the heap; the module's facts -/
namespace K90
open PySem PySem.Spec PyProof.Rows L2
/-- the built-ins' names are free in the module -/
structure Glob (mg : Str → Option Value) : Prop where
  isinstance : mg "isinstance" = none
  int : mg "int" = none
  bool : mg "bool" = none
  tuple : mg "tuple" = none
  list : mg "list" = none
  len : mg "len" = none
  all : mg "all" = none
  any : mg "any" = none
  set : mg "set" = none
  enumerate : mg "enumerate" = none
  range : mg "range" = none
  sorted : mg "sorted" = none
  repr : mg "repr" = none
  zip : mg "zip" = none
  min : mg "min" = none
  MOST_BITS : ∃ t, mg "MOST_BITS" = some (.int 4 t)
  MOST_ROWS : ∃ t, mg "MOST_ROWS" = some (.int 7 t)
theorem pe_mb {X : Cx} {x : Str} {i : Int} {pos : Pos} (hg : Gl X x) (h : ∃ t, X.mg x = some (.int i t)) (hd : (x == ("__debug__" : Str)) = false := by decide) : PE X (.Name x pos) (tC (.int i)) := by
  obtain ⟨t, h⟩ := h
  exact pe_glob hg h ⟨t, rfl⟩ hd

abbrev vN (n : Nat) : V := .int (n : Int)
theorem small_of {n : Nat} (h : n ≤ 100000) : n ≤ sizeLine := Nat.le_trans h (by decide)
theorem small_lt {n : Nat} (h : n ≤ 100000) : n < sizeLine := Nat.lt_of_le_of_lt h (by decide)

/-! ### heaps -/
theorem sm_new {H : Hp} {p : Addr} {o : HO} (h : H p = none) : Same H (L2.upd H p o) := fun b u e => by
  rw [upd_ne (ne_of_none e h)]
  exact e
theorem sm_then {H H' : Hp} {p : Addr} {o : HO} (s : Same H H') (h : H' p = none) : Same H (L2.upd H' p o) := Same.trans s (sm_new h)
/-- what H does not know may change -/
theorem sm_over {H H' : Hp} {p : Addr} {o : HO} (s : Same H H') (h : H p = none) : Same H (L2.upd H' p o) := fun b u e => by
  rw [upd_ne (ne_of_none e h)]
  exact s b u e
/-- all but what stands at m and g is as it was -/
def Keep (m g : Addr) (H H' : Hp) : Prop := ∀ b o, b ≠ m → b ≠ g → H b = some o → H' b = some o
theorem sm_keep {m g : Addr} {H H' : Hp} (s : Same H H') : Keep m g H H' := fun b o _ _ e => s b o e
theorem Keep.refl (m g : Addr) (H : Hp) : Keep m g H H := fun _ _ _ _ e => e
theorem Keep.trans {m g : Addr} {H H1 H2 : Hp} (a : Keep m g H H1) (b : Keep m g H1 H2) : Keep m g H H2 := fun c o n1 n2 e => b c o n1 n2 (a c o n1 n2 e)
theorem Keep.over {m g : Addr} {H H' : Hp} {p : Addr} {o : HO} (s : Keep m g H H') (h : H p = none) : Keep m g H (L2.upd H' p o) := fun b u n1 n2 e => by
  rw [upd_ne (ne_of_none e h)]
  exact s b u n1 n2 e
theorem Keep.atM {m g : Addr} {H H' : Hp} {o : HO} (s : Keep m g H H') : Keep m g H (L2.upd H' m o) := fun b u n1 n2 e => by
  rw [upd_ne n1]
  exact s b u n1 n2 e
theorem Keep.atG {m g : Addr} {H H' : Hp} {o : HO} (s : Keep m g H H') : Keep m g H (L2.upd H' g o) := fun b u n1 n2 e => by
  rw [upd_ne n2]
  exact s b u n1 n2 e

/-! ### tuples of numbers, rows of them, nets -/
/-- the values vs are tuples of the numbers ls -/
def RowsAt (H : Hp) (vs : List V) (ls : List (List Nat)) : Prop := vs.length = ls.length ∧ ∀ (i : Nat) (l : List Nat), ls[i]? = some l → ∃ p, vs[i]? = some (V.ref p) ∧ H p = some (.tup (l.map vN))
theorem RowsAt.nil (H : Hp) : RowsAt H [] [] := ⟨rfl, fun i l e => by simp at e⟩
theorem RowsAt.mono {H H' : Hp} {vs : List V} {ls : List (List Nat)} (r : RowsAt H vs ls) (k : ∀ p l, H p = some (.tup l) → H' p = some (.tup l)) : RowsAt H' vs ls :=
  ⟨r.1, fun i l e => by
    obtain ⟨p, h1, h2⟩ := r.2 i l e
    exact ⟨p, h1, k _ _ h2⟩⟩
theorem RowsAt.same {H H' : Hp} {vs : List V} {ls : List (List Nat)} (r : RowsAt H vs ls) (k : Same H H') : RowsAt H' vs ls := r.mono fun _ _ e => k _ _ e
theorem RowsAt.app {H : Hp} {vs ws : List V} {ls ks : List (List Nat)} (r : RowsAt H vs ls) (q : RowsAt H ws ks) : RowsAt H (vs ++ ws) (ls ++ ks) := by
  refine ⟨by rw [List.length_append, List.length_append, r.1, q.1], fun i l e => ?_⟩
  by_cases hi : i < ls.length
  · rw [List.getElem?_append_left hi] at e
    obtain ⟨p, h1, h2⟩ := r.2 i l e
    exact ⟨p, by rw [List.getElem?_append_left (by rw [r.1]; exact hi)]; exact h1, h2⟩
  · rw [List.getElem?_append_right (by omega)] at e
    obtain ⟨p, h1, h2⟩ := q.2 _ l e
    exact ⟨p, by rw [List.getElem?_append_right (by rw [r.1]; omega), r.1]; exact h1, h2⟩
theorem RowsAt.one {H : Hp} {p : Addr} {l : List Nat} (h : H p = some (.tup (l.map vN))) : RowsAt H [V.ref p] [l] := by
  refine ⟨rfl, fun i k e => ?_⟩
  match i, e with
  | 0, e =>
    cases e
    exact ⟨p, rfl, h⟩
  | i + 1, e => simp at e
theorem RowsAt.snoc {H : Hp} {vs : List V} {ls : List (List Nat)} {p : Addr} {l : List Nat} (r : RowsAt H vs ls) (h : H p = some (.tup (l.map vN))) : RowsAt H (vs ++ [V.ref p]) (ls ++ [l]) := r.app (.one h)
theorem RowsAt.get {H : Hp} {vs : List V} {ls : List (List Nat)} {i : Nat} (r : RowsAt H vs ls) (h : i < ls.length) : ∃ p l, vs[i]? = some (V.ref p) ∧ ls[i]? = some l ∧ H p = some (.tup (l.map vN)) := by
  obtain ⟨p, h1, h2⟩ := r.2 i _ (List.getElem?_eq_getElem h)
  exact ⟨p, _, h1, List.getElem?_eq_getElem h, h2⟩
theorem RowsAt.take {H : Hp} {vs : List V} {ls : List (List Nat)} (r : RowsAt H vs ls) (n : Nat) : RowsAt H (vs.take n) (ls.take n) := by
  refine ⟨by rw [List.length_take, List.length_take, r.1], fun i l e => ?_⟩
  rw [List.getElem?_take] at e ⊢
  by_cases hi : i < n
  · rw [if_pos hi] at e ⊢
    exact r.2 i l e
  · rw [if_neg hi] at e
    cases e
theorem RowsAt.drop {H : Hp} {vs : List V} {ls : List (List Nat)} (r : RowsAt H vs ls) (n : Nat) : RowsAt H (vs.drop n) (ls.drop n) := by
  refine ⟨by rw [List.length_drop, List.length_drop, r.1], fun i l e => ?_⟩
  rw [List.getElem?_drop] at e ⊢
  exact r.2 _ l e
/-- v is the net of b bits and the orders os -/
def NetAt (H : Hp) (v : V) (b : Nat) (os : List (List Nat)) : Prop := ∃ (a o : Addr) (vs : List V), v = V.ref a ∧ H a = some (.tup [vN b, V.ref o]) ∧ H o = some (.tup vs) ∧ RowsAt H vs os
theorem NetAt.mono {H H' : Hp} {v : V} {b : Nat} {os : List (List Nat)} (r : NetAt H v b os) (k : ∀ p l, H p = some (.tup l) → H' p = some (.tup l)) : NetAt H' v b os := by
  obtain ⟨a, o, vs, h1, h2, h3, h4⟩ := r
  exact ⟨a, o, vs, h1, k _ _ h2, k _ _ h3, h4.mono k⟩
theorem NetAt.same {H H' : Hp} {v : V} {b : Nat} {os : List (List Nat)} (r : NetAt H v b os) (k : Same H H') : NetAt H' v b os := r.mono fun _ _ e => k _ _ e

/-! ### lists of numbers as data -/
theorem dp_ints {K : PySem.W.Frag} {H : Hp} : ∀ ns : List Int, DpAll K H (ns.map V.int) (ns.map PyData.int)
  | [] => .nil
  | n :: r => .cons (.int n) (dp_ints r)
theorem eqvAll_ints : ∀ ns ms : List Int, PyData.eqvAll (ns.map PyData.int) (ms.map PyData.int) = decide (ns = ms)
  | [], [] => by simp [PyData.eqvAll]
  | [], _ :: _ => by simp [PyData.eqvAll]
  | _ :: _, [] => by simp [PyData.eqvAll]
  | a :: r, b :: t => by
    rw [List.map_cons, List.map_cons, PyData.eqvAll, eqvAll_ints r t, PyData.eqv]
    by_cases h : a = b <;> by_cases h' : r = t <;> simp [h, h']
theorem rEqL {K : PySem.W.Frag} {H : Hp} {a b : Addr} {ns ms : List Int} {Q : VK} (ha : SqL K H a (ns.map V.int)) (hb : SqL K H b (ms.map V.int)) (q : Q (.bl (decide (ns = ms))) H) : rEqD K (.ref a) (.ref b) H Q :=
  ⟨_, _, .lst ha (dp_ints ns), .lst hb (dp_ints ms), PySem.W.ke_shaped_ints ns, PySem.W.ke_shaped_ints ms, by rw [PyData.eqv, eqvAll_ints]; exact q⟩
theorem rNeL {K : PySem.W.Frag} {H : Hp} {a b : Addr} {ns ms : List Int} {Q : VK} (ha : SqL K H a (ns.map V.int)) (hb : SqL K H b (ms.map V.int)) (q : Q (.bl (!decide (ns = ms))) H) : rNeD K (.ref a) (.ref b) H Q :=
  ⟨_, _, .lst ha (dp_ints ns), .lst hb (dp_ints ms), PySem.W.ke_shaped_ints ns, PySem.W.ke_shaped_ints ms, by rw [PyData.eqv, eqvAll_ints]; exact q⟩
/-! ### range(n) -/
theorem walk_r0 {n : Nat} : Walk (Itr 0 n) n (fun _ => True) (YFn fun i => vN i) :=
  walk_range.mono (fun _ h => h) fun i H x H' _ _ y => ⟨y.1, y.2.trans (congrArg V.int (Int.zero_add _))⟩
/-! ### indices -/
theorem at_map {l : List Nat} {i : Nat} (h : i < l.length) : atI (l.map vN) ((i : Nat) : Int) = some (vN (ng l i)) := atI_nat (by rw [List.getElem?_map, ng_some h]; rfl)
theorem at_neg {l : List Nat} (h : l ≠ []) : atI (l.map vN) (-1) = some (vN (lst l)) := by
  have e : l = l.dropLast ++ [lst l] := by
    unfold lst
    rw [List.getLast?_eq_getLast h]
    exact (List.dropLast_concat_getLast h).symm
  have e2 : l.map vN = l.dropLast.map vN ++ [vN (lst l)] := by
    have := congrArg (List.map vN) e
    rw [List.map_append] at this
    exact this
  rw [e2]
  exact atI_last _ _
end K90
namespace K90
open PySem PySem.Spec PyProof.Rows L2
section
variable {P : Program} {w : World} {K : PySem.W.Frag} {mg : Str → Option Value} {base : Heap}
theorem isi_int {H : Hp} {i : Int} {Q : VK} (h : Q (.bl true) H) : rIsi K [.int i, .ty "int"] H Q := ⟨_, _, _, _, true, rfl, .ty _, .base (.int i), kit_ty (by decide +kernel), h⟩
theorem isi_int_bool {H : Hp} {i : Int} {Q : VK} (h : Q (.bl false) H) : rIsi K [.int i, .ty "bool"] H Q := ⟨_, _, _, _, false, rfl, .ty _, .base (.int i), kit_ty (by decide +kernel), h⟩
theorem isi_tup {H : Hp} {a : Addr} {xs : List V} {Q : VK} (e : H a = some (.tup xs)) (h : Q (.bl true) H) : rIsi K [.ref a, .ty "tuple"] H Q := ⟨_, _, _, _, true, rfl, .ty _, .base (.tup e), kit_ty (by decide +kernel), h⟩
theorem yesT {te : TE} {σ : St} {H : Hp} {Q : VK} {N : Hp → Prop} (h : te σ H Q) : tYes σ H (fun b H3 => if b = true then te σ H3 Q else N H3) :=
  (iteT h : if true = true then te σ H Q else N H)
theorem yesI {σ : St} {H : Hp} {A B : Hp → Prop} (h : A H) : tYes σ H (fun b H3 => if b = true then A H3 else B H3) :=
  (iteT h : if true = true then A H else B H)
theorem iteD {p : Prop} [Decidable p] {A B : Prop} (h1 : p → A) (h2 : ¬ p → B) : if decide p = true then A else B := by
  by_cases h : p
  · rw [if_pos (decide_eq_true h)]
    exact h1 h
  · rw [if_neg (by rw [decide_eq_true_iff]; exact h)]
    exact h2 h
theorem iteN {p : Prop} [Decidable p] {A B : Prop} (h1 : ¬ p → A) (h2 : p → B) : if (!decide p) = true then A else B := by
  by_cases h : p
  · rw [if_neg (by rw [decide_eq_true h]; decide)]
    exact h2 h
  · rw [if_pos (by rw [decide_eq_false h]; rfl)]
    exact h1 h
theorem bl_to {Q : VK} {H : Hp} {c d : Bool} (e : c = d) (h : Q (.bl d) H) : Q (.bl c) H := by
  rw [e]
  exact h
theorem in_to {Q : VK} {H : Hp} {c d : Int} (e : c = d) (h : Q (.int d) H) : Q (.int c) H := by
  rw [e]
  exact h
/-! ### is_whole -/
def spWhole : Sp := fun vs H Q _ => ∃ v lo hi : Int, vs = [.int v, .int lo, .int hi] ∧ Q (.bl (decide (lo ≤ v) && decide (v ≤ hi))) H
theorem ok_is_whole {f : Addr} {fd : FuncData} (T : Glob mg) (D : DefAt K mg "is_whole" sis_whole ["value", "least", "most"] f fd) : Ready P w K mg base 1 "is_whole" ["value", "least", "most"] spWhole := by
  refine D.ready (D.fn.ok scis_whole (fun vs H Q E h => ?_) fun cdv A outer s H vs Q E hr h => ?_)
  · obtain ⟨_, _, _, rfl, _⟩ := h
    rfl
  obtain ⟨v, lo, hi, rfl, q⟩ := h
  have nd := scis_whole.nd
  refine ⟨_, pss_one (ps_ret (pe_and (pe_callB call_isi (by rfl) T.isinstance (by decide +kernel) (pa_cons (pv 0) (pa_cons (pe_bltn (v := .ty "int") rfl T.int (by decide +kernel) rfl) pa_nil))) (pe_and (pe_not (pe_callB call_isi (by rfl) T.isinstance (by decide +kernel) (pa_cons (pv 0) (pa_cons (pe_bltn (v := .ty "bool") rfl T.bool (by decide +kernel) rfl) pa_nil)))) (pe_one (pe_chain op_le op_le (pv 1) (pv 0) (pv 2)))))), ?_⟩
  refine ⟨_, rfl, _, _, _, _, true, rfl, .ty _, .base (.int v), kit_ty (by decide +kernel), true, rfl, iteT ?_⟩
  refine ⟨_, rfl, _, _, _, _, false, rfl, .ty _, .base (.int v), kit_ty (by decide +kernel), false, rfl, true, rfl, iteT ?_⟩
  refine ⟨_, rfl, _, rfl, _, _, rfl, rfl, _, rfl, ?_⟩
  by_cases h1 : lo ≤ v
  · rw [decide_eq_true h1] at q ⊢
    exact iteT ⟨_, rfl, _, _, rfl, rfl, q⟩
  · rw [decide_eq_false h1] at q ⊢
    exact iteF q
/-! ### wires_of -/
def spWires : Sp := fun vs H Q _ => ∃ (v : V) (b : Nat) (os : List (List Nat)), vs = [v] ∧ NetAt H v b os ∧ b ≤ 4 ∧ Q (vN (2 ^ b)) H
theorem ok_wires_of {f : Addr} {fd : FuncData} (D : DefAt K mg "wires_of" swires_of ["net"] f fd) : Ready P w K mg base 1 "wires_of" ["net"] spWires := by
  refine D.ready (D.fn.ok scwires_of (fun vs H Q E h => ?_) fun cdv A outer s H vs Q E hr h => ?_)
  · obtain ⟨_, _, _, rfl, _⟩ := h
    rfl
  obtain ⟨v, b, os, rfl, ⟨a, o, ws, rfl, ha, ho, hw⟩, hb, q⟩ := h
  refine ⟨_, pss_one (ps_ret (pe_op op_oneShl pe_int (pe_ix ix_tup (pv 0) pe_int (fun _ _ => rfl)))), ?_⟩
  refine ⟨_, rfl, a, _, 0, _, rfl, rfl, SqT.of ha, atI_nat (j := 0) rfl, b, rfl, rfl, by omega, ?_⟩
  rw [show ((2 : Int) ^ b) = ((2 ^ b : Nat) : Int) by simp]
  exact q
/-! ### next_wires -/
def spNext : Sp := fun vs H Q _ => ∃ (v : V) (b : Nat) (os : List (List Nat)) (r x : Nat) (l : List Nat), vs = [v, vN r, vN x] ∧ NetAt H v b os ∧ os[r]? = some l ∧ x < l.length ∧
  ∀ H' p, Same H H' → H p = none → H' p = some (.lst ((nxt l x).map vN)) → Q (.ref p) H'
theorem ok_next_wires {f : Addr} {fd : FuncData} (D : DefAt K mg "next_wires" snext_wires ["net", "row", "wire"] f fd) : Ready P w K mg base 1 "next_wires" ["net", "row", "wire"] spNext := by
  refine D.ready (D.fn.ok scnext_wires (fun vs H Q E h => ?_) fun cdv A outer s H vs Q E hr h => ?_)
  · obtain ⟨_, _, _, _, _, _, rfl, _⟩ := h
    rfl
  obtain ⟨v, b, os, r, x, l, rfl, ⟨a, o, ws, rfl, ha, ho, hw⟩, hl, hx, q⟩ := h
  have nd := scnext_wires.nd
  obtain ⟨p1, g1, g2⟩ := hw.2 r l hl
  refine ⟨_, pss_cons (ps_set (i := 3) nd rfl (Or.inl rfl) (pe_ix ix_tup (pe_ix ix_tup (pe_ix ix_tup (pv 0) pe_int (fun _ _ => rfl)) (pv 1) (fun _ _ => rfl)) (pv 2) (fun _ _ => rfl)))
      (pss_one (ps_ret (pe_lst (pa_cons (pe_op op_sub (pv 3) (pe_op op_mod (pv 3) pe_int)) (pa_cons (pe_op op_add (pe_op op_sub (pv 3) (pe_op op_mod (pv 3) pe_int)) pe_int) pa_nil))))), ?_⟩
  refine ⟨_, rfl, a, _, 1, _, rfl, rfl, SqT.of ha, atI_nat (j := 1) rfl, _, rfl, o, _, _, _, rfl, rfl, SqT.of ho, atI_nat g1, _, rfl, p1, _, _, _, rfl, rfl, SqT.of g2, at_map hx, ?_⟩
  have two : (0 : Int) < 2 := by decide
  refine ⟨_, rfl, _, rfl, _, _, rfl, rfl, two, _, _, rfl, rfl, _, rfl, _, rfl, _, _, rfl, rfl, two, _, _, rfl, rfl, _, _, rfl, rfl, (show 2 ≤ sizeLine by decide), fun p hp => ?_⟩
  refine q _ p (sm_new hp) hp ?_
  rw [upd_same]
  have e1 : ((ng l x : Nat) : Int) - ((ng l x : Nat) : Int) % 2 = ((ng l x - ng l x % 2 : Nat) : Int) := by omega
  show some (HO.lst [V.int (((ng l x : Nat) : Int) - ((ng l x : Nat) : Int) % 2), V.int (((ng l x : Nat) : Int) - ((ng l x : Nat) : Int) % 2 + 1)]) = _
  rw [e1]
  rfl
end
end K90
namespace K90
open PySem PySem.Spec PyProof.Rows L2
section
variable {P : Program} {w : World} {K : PySem.W.Frag} {mg : Str → Option Value} {base : Heap}
/-! ### is_order -/
def spOrder : Sp := fun vs H Q _ => ∃ (a : Addr) (l : List Nat) (m : Nat), vs = [.ref a, vN m] ∧ H a = some (.tup (l.map vN)) ∧ Ord m l ∧ m ≤ 16 ∧ ∀ H', Same H H' → Q (.bl true) H'
theorem ints_map (l : List Nat) : l.map vN = (l.map fun n : Nat => (n : Int)).map V.int := by rw [List.map_map]; rfl
theorem nodup_ints {l : List Nat} (h : l.Nodup) : (l.map fun n : Nat => (n : Int)).Nodup := by
  exact List.pairwise_map.mpr (List.Pairwise.imp (fun {x y} hne e => hne (Int.ofNat.inj e)) h)
theorem ok_is_order {f : Addr} {fd : FuncData} (T : Glob mg) (D : DefAt K mg "is_order" sis_order ["value", "many"] f fd) (Ris_whole : Ready P w K mg base 1 "is_whole" ["value", "least", "most"] spWhole) :
    Ready P w K mg base 2 "is_order" ["value", "many"] spOrder := by
  refine D.ready (D.fn.ok scis_order (fun vs H Q E h => ?_) fun cdv A outer s H vs Q E hr h => ?_)
  · obtain ⟨_, _, _, rfl, _⟩ := h
    rfl
  obtain ⟨a, l, m, rfl, ha, ho, hm, q⟩ := h
  have nd := scis_order.nd
  have hris_whole := hr
  refine ⟨_, pss_cons (ps_if (PW.pt (pw_or (pt_not (pt_val (pe_callB call_isi (by rfl) T.isinstance (by decide +kernel) (pa_cons (pv 0) (pa_cons (pe_bltn (v := .ty "tuple") rfl T.tuple (by decide +kernel) rfl) pa_nil))))) (pw_or (pt_cmp (pc_neI (pe_callB call_len_seq (by rfl) T.len PySem.boot_len (pa_cons (pv 0) pa_nil)) (pv 1))) (pw_or1 (pt_not (pt_val (pe_callB (cr_all rfl) (by rfl) T.all (by decide +kernel) (pa_cons (pe_lc (own := [("one", 2)]) rfl nd (pi_tup (pv 0)) (blkOk_by (own := [("one", 2)]) (N := Nis_order) (sc := (defScope sis_order)) (by decide +kernel)) (fun _ _ _ _ _ => (pg_name (i := 2) nd rfl (Or.inl rfl))) (fun _ _ _ _ _ => pts_nil) (fun _ _ _ _ _ => (pe_rd Ris_whole hris_whole rfl (pa_cons (pv 2) (pa_cons pe_int (pa_cons (pe_op op_sub (pv 1) pe_int) pa_nil)))))) pa_nil))))))))
      (pss_one (ps_ret pe_bl))
      (pss_nil))
      (pss_one (ps_ret (pe_cmp (pc_eqI (pe_lenSetT (by rfl) T.len (by rfl) T.set (pv 0)) (pv 1)) rfl))), ?_⟩
  refine ⟨_, rfl, _, _, _, _, true, rfl, .ty _, .base (.tup ha), kit_ty (by decide +kernel), true, rfl, iteF ?_⟩
  have e1 : (!decide ((((l.map vN).length : Nat) : Int) = (m : Int))) = false := by
    rw [List.length_map, ho.len, decide_eq_true rfl]
    rfl
  refine ⟨_, rfl, a, _, rfl, .inr (SqT.of ha), _, rfl, _, _, rfl, rfl, false, congrArg V.bl e1, iteF ?_⟩
  refine ⟨_, rfl, a, rfl, ⟨_, SqT.of ha⟩, fun Dl hD => lc_it (walk_tup (xs := l.map vN)) (fun i H' => H' = upd H Dl (.lst (List.replicate i (V.bl true)))) rfl (fun i H' _ e => ?_) (fun i x H1 H2 hi e y => ?_) (fun H' e => ?_)⟩
  · subst e
    exact SqT.of (by rw [upd_ne (ne_of_none ha hD)]; exact ha)
  · obtain ⟨rfl, hx⟩ := y
    subst e
    rw [List.length_map] at hi
    have hx2 : x = vN (ng l i) := by
      rw [List.getElem?_map, ng_some hi] at hx
      exact (Option.some.inj hx).symm
    subst hx2
    have hlt : ng l i < m := ho.ng_lt (by rw [← ho.len]; exact hi)
    refine ⟨rfl, yesT ⟨_, rfl, _, rfl, _, _, rfl, rfl, _, _, _, rfl, _, upd_same, ?_, ?_⟩⟩
    · rw [List.length_replicate]
      exact small_lt (by have := ho.len; omega)
    · have e2 : (decide ((0 : Int) ≤ ((ng l i : Nat) : Int)) && decide (((ng l i : Nat) : Int) ≤ (m : Int) - 1)) = true := by
        rw [decide_eq_true (by omega), decide_eq_true (by omega)]
        rfl
      show upd (upd H Dl _) Dl (.lst (List.replicate i (V.bl true) ++ [V.bl (decide ((0 : Int) ≤ ((ng l i : Nat) : Int)) && decide (((ng l i : Nat) : Int) ≤ (m : Int) - 1))])) = _
      rw [e2, upd_upd, ← List.replicate_succ']
  · subst e
    refine ⟨Dl, List.replicate (l.map vN).length true, rfl, SqL.of (by rw [upd_same, List.map_replicate]), _, rfl, ?_⟩
    have e3 : (List.replicate (l.map vN).length true).all id = true := by simp
    rw [e3]
    refine iteF ⟨_, rfl, a, l.map fun n : Nat => (n : Int), rfl, SqT.of ?_, ?_, nodup_ints ho.nd, _, rfl, _, _, rfl, rfl, ?_⟩
    · rw [upd_ne (ne_of_none ha hD), ← ints_map]
      exact ha
    · rw [List.length_map, ho.len]
      omega
    · have e4 : decide ((((l.map fun n : Nat => (n : Int)).length : Nat) : Int) = (m : Int)) = true := decide_eq_true (by rw [List.length_map, ho.len])
      exact bl_to (Q := Q) e4 (q _ (sm_new hD))
/-! ### need_net -/
def spNet : Sp := fun vs H Q _ => ∃ (v : V) (b : Nat) (os : List (List Nat)), vs = [v] ∧ NetAt H v b os ∧ Net b os ∧ ∀ H', Same H H' → Q v H'
theorem ok_need_net {f : Addr} {fd : FuncData} (T : Glob mg) (D : DefAt K mg "need_net" sneed_net ["net"] f fd) (Ris_whole : Ready P w K mg base 1 "is_whole" ["value", "least", "most"] spWhole)
    (Ris_order : Ready P w K mg base 2 "is_order" ["value", "many"] spOrder) (Rwires_of : Ready P w K mg base 1 "wires_of" ["net"] spWires) : Ready P w K mg base 3 "need_net" ["net"] spNet := by
  refine D.ready (D.fn.ok scneed_net (fun vs H Q E h => ?_) fun cdv A outer s H vs Q E hr h => ?_)
  · obtain ⟨_, _, _, rfl, _⟩ := h
    rfl
  obtain ⟨v, b, os, rfl, ⟨a, o, ws, rfl, ha, ho, hw⟩, N, q⟩ := h
  have nd := scneed_net.nd
  have hris_order := hr
  have hris_whole := hr.mono (by decide : 1 ≤ 2)
  have hrwires_of := hr.mono (by decide : 1 ≤ 2)
  refine ⟨_, pss_cons (ps_if (PW.pt (pw_or (pt_not (pt_val (pe_callB call_isi (by rfl) T.isinstance (by decide +kernel) (pa_cons (pv 0) (pa_cons (pe_bltn (v := .ty "tuple") rfl T.tuple (by decide +kernel) rfl) pa_nil))))) (pw_or1 (pt_cmp (pc_neI (pe_callB call_len_seq (by rfl) T.len PySem.boot_len (pa_cons (pv 0) pa_nil)) pe_int)))))
      (pss_one (ps_never))
      (pss_nil))
      (pss_cons (ps_if (pt_not (pt_val (pe_rd Ris_whole hris_whole rfl (pa_cons (pe_ix ix_tup (pv 0) pe_int (fun _ _ => rfl)) (pa_cons pe_int (pa_cons (pe_mb rfl T.MOST_BITS) pa_nil))))))
      (pss_one (ps_never))
      (pss_nil))
      (pss_cons (ps_if (PW.pt (pw_or (pt_not (pt_val (pe_callB call_isi (by rfl) T.isinstance (by decide +kernel) (pa_cons (pe_ix ix_tup (pv 0) pe_int (fun _ _ => rfl)) (pa_cons (pe_bltn (v := .ty "tuple") rfl T.tuple (by decide +kernel) rfl) pa_nil))))) (pw_or1 (pt_cmp (pc_ge (pe_callB call_len_seq (by rfl) T.len PySem.boot_len (pa_cons (pe_ix ix_tup (pv 0) pe_int (fun _ _ => rfl)) pa_nil)) (pe_mb rfl T.MOST_ROWS))))))
      (pss_one (ps_never))
      (pss_nil))
      (pss_cons (ps_for PassesOwn.never rfl (pi_enumT (by rfl) T.enumerate (pa_cons (pe_ix ix_tup (pv 0) pe_int (fun _ _ => rfl)) pa_nil)) (pg_tup rfl (pgs_cons (pg_name (i := 1) nd rfl (Or.inl rfl)) (pgs_cons (pg_name (i := 2) nd rfl (Or.inl rfl)) pgs_nil)))
      (pss_one (ps_if (pt_not (pt_val (pe_rd Ris_order hris_order rfl (pa_cons (pv 2) (pa_cons (pe_rd Rwires_of hrwires_of rfl (pa_cons (pv 0) pa_nil)) pa_nil)))))
        (pss_one (ps_never))
        (pss_nil))))
      (pss_one (ps_ret (pv 0)))))), ?_⟩
  have n1 := N.lo
  have n4 := N.hi
  have nr := N.rows
  refine ⟨_, rfl, _, _, _, _, true, rfl, .ty _, .base (.tup ha), kit_ty (by decide +kernel), true, rfl, iteF ?_⟩
  refine ⟨_, rfl, a, _, rfl, .inr (SqT.of ha), _, _, rfl, rfl, _, rfl, iteF ?_⟩
  refine ⟨_, rfl, a, _, 0, _, rfl, rfl, SqT.of ha, atI_nat (j := 0) rfl, _, _, _, rfl, _, rfl, ?_⟩
  have e1 : (decide ((1 : Int) ≤ (b : Int)) && decide ((b : Int) ≤ 4)) = true := by
    rw [decide_eq_true (by omega), decide_eq_true (by omega)]
    rfl
  rw [e1]
  refine iteF ?_
  refine ⟨_, rfl, a, _, 1, _, rfl, rfl, SqT.of ha, atI_nat (j := 1) rfl, _, _, _, _, true, rfl, .ty _, .base (.tup ho), kit_ty (by decide +kernel), true, rfl, iteF ?_⟩
  have hlw : ws.length = os.length := hw.1
  have e2 : decide ((7 : Int) ≤ ((ws.length : Nat) : Int)) = false := decide_eq_false (by omega)
  refine ⟨_, rfl, a, _, 1, _, rfl, rfl, SqT.of ha, atI_nat (j := 1) rfl, o, _, rfl, .inr (SqT.of ho), _, _, rfl, rfl, false, congrArg V.bl e2, iteF ?_⟩
  refine ⟨_, rfl, a, _, 1, _, rfl, rfl, SqT.of ha, atI_nat (j := 1) rfl, o, ws, rfl, SqT.of ho, for_it walk_enumT (fun i σ H' => Same H H' ∧ ∃ y1 y2, σ = [some (.ref a), y1, y2]) ⟨Same.refl H, none, none, rfl⟩ (fun i σ H' _ ⟨sm, _⟩ => SqT.of (sm _ _ ho)) (fun i x σ H1 H2 hi p y => ?_) (fun σ H' ⟨sm, y1, y2, e⟩ => ?_)⟩
  · obtain ⟨sm, y1, y2, rfl⟩ := p
    obtain ⟨Tp, x1, x2, rfl, hT, rfl, e3, e4⟩ := y
    obtain ⟨p, l, g1, g2, g3⟩ := hw.get (i := i) (by omega)
    have e3' : vN i = x1 := Option.some.inj e3
    have e4' : V.ref p = x2 := Option.some.inj (g1.symm.trans e4)
    subst e3' e4'
    have s2 : Same H (upd H1 Tp (.tup [vN i, V.ref p])) := sm_then sm hT
    refine ⟨Tp, _, rfl, SqT.of upd_same, rfl, _, _, rfl, _, _, rfl, rfl, ?_⟩
    refine ⟨_, rfl, _, rfl, _, b, os, rfl, ⟨a, o, ws, rfl, s2 _ _ ha, s2 _ _ ho, hw.same s2⟩, n4, p, l, 2 ^ b, rfl, s2 _ _ g3, N.ord l (List.mem_of_getElem? g2), ?_, fun H3 s3 => ?_⟩
    · have : 2 ^ b ≤ 2 ^ 4 := Nat.pow_le_pow_right (by decide) n4
      omega
    · exact ⟨true, rfl, iteF ⟨s2.trans s3, _, _, rfl⟩⟩
  · subst e
    exact ⟨_, rfl, q _ sm⟩
end
end K90
namespace K90
open PySem PySem.Spec PyProof.Rows L2
/-- how often each wire stands in cur -/
def cntL (W : Nat) (cur : List Nat) : List V := (List.range W).map fun w => vN (cur.count w)
theorem cntL_len (W : Nat) (cur : List Nat) : (cntL W cur).length = W := by
  unfold cntL
  rw [List.length_map, List.length_range]
theorem cntL_get {W f : Nat} (cur : List Nat) (h : f < W) : (cntL W cur)[f]? = some (vN (cur.count f)) := by
  unfold cntL
  rw [List.getElem?_map, List.getElem?_range h]
  rfl
theorem cntL_congr {W : Nat} {a b : List Nat} (h : ∀ w, a.count w = b.count w) : cntL W a = cntL W b := by
  unfold cntL
  exact List.map_congr_left fun w _ => by rw [h w]
theorem cntL_nil (W : Nat) : cntL W [] = List.replicate W (vN 0) := by
  unfold cntL
  rw [List.eq_replicate_iff]
  refine ⟨by rw [List.length_map, List.length_range], fun x hx => ?_⟩
  obtain ⟨w, _, rfl⟩ := List.mem_map.mp hx
  rfl
theorem cntL_set {W f m : Nat} (acc : List Nat) (h : f < W) : (cntL W acc).set f (vN (acc.count f + m)) = cntL W (acc ++ List.replicate m f) := by
  refine List.ext_getElem? fun j => ?_
  rw [List.getElem?_set, cntL_len]
  by_cases hj : j < W
  · rw [cntL_get _ hj, cntL_get _ hj, List.count_append, List.count_replicate]
    by_cases e : f = j
    · subst e
      rw [if_pos rfl, if_pos h]
      simp
    · have e2 : (f == j) = false := beq_eq_false_iff_ne.mpr e
      rw [if_neg e, e2]
      simp
  · have h1 : (cntL W acc)[j]? = none := List.getElem?_eq_none (by rw [cntL_len]; omega)
    have h2 : (cntL W (acc ++ List.replicate m f))[j]? = none := List.getElem?_eq_none (by rw [cntL_len]; omega)
    rw [h1, h2, if_neg (by omega)]
theorem ix_nat {n j : Nat} (h : j < n) : ixN n ((j : Nat) : Int) = some j := by
  unfold ixN
  rw [if_pos (by omega), if_pos (by omega), Int.toNat_natCast]
theorem flat_rep {n : Nat} {v : V} : (List.replicate n [v]).flatten = List.replicate n v := by
  induction n with
  | zero => rfl
  | succ n ih =>
    rw [List.replicate_succ, List.flatten_cons, ih, List.replicate_succ]
    rfl
theorem pow_le16 {b : Nat} (h : b ≤ 4) : 2 ^ b ≤ 16 := Nat.pow_le_pow_right (by decide : 1 ≤ 2) h
section
variable {P : Program} {w : World} {K : PySem.W.Frag} {mg : Str → Option Value} {base : Heap}
/-! ### counts_from -/
def spCounts : Sp := fun vs H Q _ => ∃ (v : V) (b : Nat) (os : List (List Nat)) (x : Nat), vs = [v, vN x] ∧ NetAt H v b os ∧ Net b os ∧ x < 2 ^ b ∧ ∀ H' p, Same H H' → H p = none → H' p = some (.lst (cntL (2 ^ b) (endsF os (x / 2)))) → Q (.ref p) H'
theorem ok_counts_from {f : Addr} {fd : FuncData} (T : Glob mg) (D : DefAt K mg "counts_from" scounts_from ["net", "begin"] f fd) (Rwires_of : Ready P w K mg base 1 "wires_of" ["net"] spWires)
    (Rnext_wires : Ready P w K mg base 1 "next_wires" ["net", "row", "wire"] spNext) : Ready P w K mg base 2 "counts_from" ["net", "begin"] spCounts := by
  refine D.ready (D.fn.ok sccounts_from (fun vs H Q E h => ?_) fun cdv A outer s H vs Q E hr h => ?_)
  · obtain ⟨_, _, _, _, rfl, _⟩ := h
    rfl
  obtain ⟨v, b, os, x, rfl, ⟨a, o, ws, rfl, ha, ho, hw⟩, N, hx, q⟩ := h
  have nd := sccounts_from.nd
  have hrwires_of := hr
  have hrnext_wires := hr
  have n4 := N.hi
  have n16 := pow_le16 n4
  have hs := half_lt N.lo hx
  have hev := even_pow N.lo
  have hph := pow_half N.lo
  refine ⟨_, pss_cons (ps_set (i := 2) nd rfl (Or.inl rfl) (pe_op op_rep (pe_lst (pa_cons pe_int pa_nil)) (pe_rd Rwires_of hrwires_of rfl (pa_cons (pv 0) pa_nil))))
      (pss_cons (ps_asg2 pe_int (pg_sub (pv 2) (pe_op op_sub (pv 1) (pe_op op_mod (pv 1) pe_int)) set_list) (pg_sub (pv 2) (pe_op op_add (pe_op op_sub (pv 1) (pe_op op_mod (pv 1) pe_int)) pe_int) set_list))
      (pss_cons (ps_for PassesOwn.never rfl (pi_range1 (by rfl) T.range (pa_cons (pe_callB call_len_seq (by rfl) T.len PySem.boot_len (pa_cons (pe_ix ix_tup (pv 0) pe_int (fun _ _ => rfl)) pa_nil)) pa_nil)) (pg_name (i := 3) nd rfl (Or.inl rfl))
      (pss_cons (ps_set (i := 4) nd rfl (Or.inl rfl) (pe_op op_rep (pe_lst (pa_cons pe_int pa_nil)) (pe_rd Rwires_of hrwires_of rfl (pa_cons (pv 0) pa_nil))))
        (pss_cons (ps_for PassesOwn.never rfl (pi_enum (by rfl) T.enumerate (pa_cons (pv 2) pa_nil)) (pg_tup rfl (pgs_cons (pg_name (i := 5) nd rfl (Or.inl rfl)) (pgs_cons (pg_name (i := 6) nd rfl (Or.inl rfl)) pgs_nil)))
        (pss_one (ps_for PassesOwn.never rfl (pi_list (pe_rd Rnext_wires hrnext_wires rfl (pa_cons (pv 0) (pa_cons (pv 3) (pa_cons (pv 5) pa_nil))))) (pg_name (i := 7) nd rfl (Or.inl rfl))
          (pss_one (ps_augS (pv 4) (pv 7) get_list (pv 6) ip_add set_list)))))
        (pss_one (ps_set (i := 2) nd rfl (Or.inl rfl) (pv 4))))))
      (pss_one (ps_ret (pv 2))))), ?_⟩
  refine ⟨by decide, fun p0 hp0 => ?_⟩
  have s0 : Same H (upd H p0 (.lst [V.int 0])) := sm_new hp0
  refine ⟨_, rfl, _, b, os, rfl, ⟨a, o, ws, rfl, s0 _ _ ha, s0 _ _ ho, hw.same s0⟩, n4, p0, _, _, rfl, rfl, upd_same, by omega, by omega, ?_, fun c hc => ?_⟩
  · rw [Int.toNat_natCast]
    exact small_of (by simp; omega)
  have s1 : Same H (upd (upd H p0 (.lst [V.int 0])) c (.lst (List.replicate ((2 ^ b : Nat) : Int).toNat [V.int 0]).flatten)) := sm_then s0 hc
  have hc0 : H c = none := s0.free hc
  have e1 : (List.replicate ((2 ^ b : Nat) : Int).toNat [V.int 0]).flatten = cntL (2 ^ b) [] := by
    rw [Int.toNat_natCast, flat_rep, cntL_nil]
    rfl
  rw [e1] at s1 ⊢
  have f1 : ((x : Nat) : Int) - ((x : Nat) : Int) % 2 = ((2 * (x / 2) : Nat) : Int) := by omega
  have f2 : ((x : Nat) : Int) - ((x : Nat) : Int) % 2 + 1 = ((2 * (x / 2) + 1 : Nat) : Int) := by omega
  have two : (0 : Int) < 2 := by decide
  refine ⟨_, rfl, _, rfl, _, rfl, _, _, rfl, rfl, two, _, _, rfl, rfl, c, _, _, 2 * (x / 2), rfl, congrArg V.int f1, upd_same, by rw [cntL_len]; exact ix_nat (by omega), ?_⟩
  refine ⟨_, rfl, _, rfl, _, rfl, _, _, rfl, rfl, two, _, _, rfl, rfl, _, _, rfl, rfl, c, _, _, 2 * (x / 2) + 1, rfl, congrArg V.int f2, upd_same, by rw [List.length_set, cntL_len]; exact ix_nat (by omega), ?_⟩
  rw [upd_upd, upd_upd]
  have e2 : ((cntL (2 ^ b) []).set (2 * (x / 2)) (V.int 1)).set (2 * (x / 2) + 1) (V.int 1) = cntL (2 ^ b) (curAt os (x / 2) 0) := by
    have h1 := cntL_set (W := 2 ^ b) (f := 2 * (x / 2)) (m := 1) [] (by omega)
    have h2 := cntL_set (W := 2 ^ b) (f := 2 * (x / 2) + 1) (m := 1) ([] ++ List.replicate 1 (2 * (x / 2))) (by omega)
    have h3 : (([] : List Nat) ++ List.replicate 1 (2 * (x / 2))).count (2 * (x / 2) + 1) = 0 := by
      rw [List.nil_append, List.count_replicate, beq_eq_false_iff_ne.mpr (by omega)]
      rfl
    rw [h3] at h2
    rw [show (V.int 1 : V) = vN (List.count (2 * (x / 2)) [] + 1) from rfl, h1]
    exact h2
  rw [e2]
  have lenw : ws.length = os.length := hw.1
  refine ⟨_, rfl, a, _, 1, _, rfl, rfl, SqT.of (s1 _ _ ha |> fun z => by rw [upd_ne (ne_of_none ha hc0)] at z ⊢; exact z), atI_nat (j := 1) rfl, o, ws, rfl, .inr (SqT.of ?_), _, rfl, by omega, by have := N.rows; omega, ?_⟩
  · rw [upd_ne (ne_of_none ho hc0)]
    exact s0 _ _ ho
  rw [Int.toNat_natCast, lenw]
  refine for_it walk_r0 (fun r σ H' => Same H H' ∧ ∃ c y3 y4 y5 y6 y7, σ = [some (.ref a), some (vN x), some (.ref c), y3, y4, y5, y6, y7] ∧ H c = none ∧ H' c = some (.lst (cntL (2 ^ b) (curAt os (x / 2) r))))
    ⟨?_, c, none, none, none, none, none, rfl, hc0, upd_same⟩ (fun _ _ _ _ _ => trivial) (fun r y σ H1 H2 hr1 p y1 => ?_) (fun σ H' ⟨sm, c, y3, y4, y5, y6, y7, e, hc1, hc2⟩ => ?_)
  · exact sm_over s0 hc0
  · obtain ⟨sm, c, y3, y4, y5, y6, y7, rfl, hc1, hc2⟩ := p
    obtain ⟨rfl, rfl⟩ := y1
    obtain ⟨pl, l, g1, g2, g3⟩ := hw.get (i := r) hr1
    have oL := N.ord l (List.mem_of_getElem? g2)
    refine ⟨by decide, fun p1 hp1 => ?_⟩
    have s2 : Same H (upd H2 p1 (.lst [V.int 0])) := sm_then sm hp1
    refine ⟨_, rfl, _, b, os, rfl, ⟨a, o, ws, rfl, s2 _ _ ha, s2 _ _ ho, hw.same s2⟩, n4, p1, _, _, rfl, rfl, upd_same, by omega, by omega, ?_, fun d hd => ?_⟩
    · rw [Int.toNat_natCast]
      exact small_of (by simp; omega)
    have hd0 : H d = none := s2.free hd
    have ncd : c ≠ d := fun e => by
      subst e
      have hcp : c ≠ p1 := ne_of_none hc2 hp1
      rw [upd_ne hcp, hc2] at hd
      cases hd
    have hcp : c ≠ p1 := ne_of_none hc2 hp1
    rw [e1]
    have hcc : (upd (upd H2 p1 (.lst [V.int 0])) d (.lst (cntL (2 ^ b) []))) c = some (.lst (cntL (2 ^ b) (curAt os (x / 2) r))) := by
      rw [upd_ne ncd, upd_ne hcp]
      exact hc2
    refine ⟨_, rfl, c, _, rfl, SqL.of hcc, for_it walk_enum (fun i σ H' => Same H H' ∧ ∃ y5 y6 y7, σ = [some (.ref a), some (vN x), some (.ref c), some (vN r), some (.ref d), y5, y6, y7] ∧ H' c = some (.lst (cntL (2 ^ b) (curAt os (x / 2) r))) ∧
        H' d = some (.lst (cntL (2 ^ b) (stepE l (upto (curAt os (x / 2) r) i)))))
      ⟨sm_over s2 hd0, y5, y6, y7, rfl, hcc, upd_same⟩ (fun i σ H' _ ⟨_, _, _, _, _, z, _⟩ => SqL.of z) (fun i y σ H1 H3 hi p y1 => ?_) (fun σ H' ⟨sm, y5, y6, y7, e, hc3, hd3⟩ => ?_)⟩
    · obtain ⟨sm3, y5, y6, y7, rfl, hc3, hd3⟩ := p
      obtain ⟨Tp, x1, x2, rfl, hT, rfl, e3, e4⟩ := y1
      rw [cntL_len] at hi
      have e3' : vN i = x1 := Option.some.inj e3
      have e4' : vN ((curAt os (x / 2) r).count i) = x2 := Option.some.inj ((cntL_get _ hi).symm.trans e4)
      subst e3' e4'
      have s4 : Same H (upd H1 Tp (.tup [vN i, vN ((curAt os (x / 2) r).count i)])) := sm_then sm3 hT
      have ncT : c ≠ Tp := ne_of_none hc3 hT
      have ndT : d ≠ Tp := ne_of_none hd3 hT
      refine ⟨Tp, _, rfl, SqT.of upd_same, rfl, _, _, rfl, _, _, rfl, rfl, ?_⟩
      refine ⟨_, rfl, _, rfl, _, rfl, _, b, os, r, i, l, rfl, ⟨a, o, ws, rfl, s4 _ _ ha, s4 _ _ ho, hw.same s4⟩, g2, by rw [oL.len]; exact hi, fun H4 p4 sm4 hp4 hv4 => ?_⟩
      have hc4 : H4 c = some (.lst (cntL (2 ^ b) (curAt os (x / 2) r))) := sm4 _ _ (by rw [upd_ne ncT]; exact hc3)
      have hd4 : H4 d = some (.lst (cntL (2 ^ b) (stepE l (upto (curAt os (x / 2) r) i)))) := sm4 _ _ (by rw [upd_ne ndT]; exact hd3)
      have npc : c ≠ p4 := fun e => by
        rw [← e, upd_ne ncT, hc3] at hp4
        cases hp4
      have npd : d ≠ p4 := fun e => by
        rw [← e, upd_ne ndT, hd3] at hp4
        cases hp4
      refine ⟨p4, rfl, ⟨_, SqL.of hv4⟩, for_it (walk_list (xs := (nxt l i).map vN)) (fun j σ H' => Same H H' ∧ ∃ y7, σ = [some (.ref a), some (vN x), some (.ref c), some (vN r), some (.ref d), some (vN i), some (vN ((curAt os (x / 2) r).count i)), y7] ∧
          H' c = some (.lst (cntL (2 ^ b) (curAt os (x / 2) r))) ∧ H' p4 = some (.lst ((nxt l i).map vN)) ∧
          H' d = some (.lst (cntL (2 ^ b) (stepE l (upto (curAt os (x / 2) r) i) ++ ((nxt l i).take j).flatMap fun f => List.replicate ((curAt os (x / 2) r).count i) f))))
        ⟨s4.trans sm4, y7, rfl, hc4, hv4, by simpa using hd4⟩ (fun j σ H' _ ⟨_, _, _, _, z, _⟩ => SqL.of z) (fun j y σ H5 H6 hj p y1 => ?_) (fun σ H' ⟨sm5, y7, e, hc5, _, hd5⟩ => ?_)⟩
      · obtain ⟨sm5, y7, rfl, hc5, hp5, hd5⟩ := p
        obtain ⟨rfl, hy⟩ := y1
        rw [List.length_map] at hj
        have hfar : (nxt l i)[j]? = some (ng (nxt l i) j) := ng_some hj
        have ey : vN (ng (nxt l i) j) = y := by
          rw [List.getElem?_map, hfar] at hy
          exact Option.some.inj hy
        subst ey
        have hflt : ng (nxt l i) j < 2 ^ b := nxt_lt oL hev hi _ (List.mem_of_getElem? hfar)
        refine ⟨_, rfl, _, rfl, d, _, _, _, rfl, rfl, SqL.of hd5, cntL_get _ hflt, _, rfl, _, _, rfl, rfl, d, _, _, ng (nxt l i) j, rfl, rfl, hd5, by rw [cntL_len]; exact ix_nat hflt, ?_⟩
        refine ⟨sm_over sm5 hd0, _, rfl, ?_, ?_, ?_⟩
        · rw [upd_ne ncd]
          exact hc5
        · rw [upd_ne npd.symm]
          exact hp5
        · rw [upd_same]
          have e5 := cntL_set (W := 2 ^ b) (f := ng (nxt l i) j) (m := (curAt os (x / 2) r).count i) (stepE l (upto (curAt os (x / 2) r) i) ++ ((nxt l i).take j).flatMap fun f => List.replicate ((curAt os (x / 2) r).count i) f) hflt
          have e6 : ((nxt l i).take (j + 1)).flatMap (fun f => List.replicate ((curAt os (x / 2) r).count i) f) = ((nxt l i).take j).flatMap (fun f => List.replicate ((curAt os (x / 2) r).count i) f) ++ List.replicate ((curAt os (x / 2) r).count i) (ng (nxt l i) j) := by
            rw [List.take_add_one, hfar, List.flatMap_append]
            simp
          rw [e6, ← List.append_assoc]
          exact congrArg (fun z => some (HO.lst z)) e5
      · subst e
        refine ⟨sm5, _, _, _, rfl, hc5, ?_⟩
        rw [hd5]
        refine congrArg (fun z => some (HO.lst z)) (cntL_congr fun z => ?_)
        have e7 : (nxt l i).take ((nxt l i).map vN).length = nxt l i := by
          rw [List.length_map, List.take_length]
        rw [e7, upto_succ, stepE_app, List.count_append, List.count_append, count_rep]
        simp [nxt]
    · subst e
      refine ⟨_, rfl, sm, d, _, _, _, _, _, rfl, hd0, ?_⟩
      rw [hd3, cntL_len, curAt_succ g2]
      exact congrArg (fun z => some (HO.lst z)) (cntL_congr fun z => List.perm_iff_count.mp (stepE_perm l (upto_perm (curAt_lt N hs r (by omega)))) z)
  · subst e
    rw [curAt_all] at hc2
    exact ⟨_, rfl, q _ c sm hc1 hc2⟩
end
end K90
namespace K90
open PySem PySem.Spec PyProof.Rows L2
theorem cntL_ones {b : Nat} {os : List (List Nat)} (B : Ban b os) {s : Nat} (hs : s < 2 ^ (b - 1)) : cntL (2 ^ b) (endsF os s) = (List.replicate (2 ^ b) (1 : Int)).map V.int := by
  unfold cntL
  rw [List.map_replicate, List.eq_replicate_iff]
  refine ⟨by rw [List.length_map, List.length_range], fun x hx => ?_⟩
  obtain ⟨w, hw, rfl⟩ := List.mem_map.mp hx
  rw [ban_ones B hs w (List.mem_range.mp hw)]
  rfl
section
variable {P : Program} {w : World} {K : PySem.W.Frag} {mg : Str → Option Value} {base : Heap}
/-! ### is_banyan_of -/
def spBan : Sp := fun vs H Q _ => ∃ (v : V) (b : Nat) (os : List (List Nat)), vs = [v] ∧ NetAt H v b os ∧ Net b os ∧ Ban b os ∧ ∀ H', Same H H' → Q (.bl true) H'
def spBan0 : Sp := fun vs H Q _ => ∃ (v : V) (b : Nat) (os : List (List Nat)), vs = [v] ∧ NetAt H v b os ∧ Net b os ∧ Ban b os ∧ ∀ H', Same H H' → Q v H'
theorem ok_is_banyan_of {f : Addr} {fd : FuncData} (T : Glob mg) (D : DefAt K mg "is_banyan_of" sis_banyan_of ["net"] f fd) (Rwires_of : Ready P w K mg base 1 "wires_of" ["net"] spWires)
    (Rcounts_from : Ready P w K mg base 2 "counts_from" ["net", "begin"] spCounts) : Ready P w K mg base 3 "is_banyan_of" ["net"] spBan := by
  refine D.ready (D.fn.ok scis_banyan_of (fun vs H Q E h => ?_) fun cdv A outer s H vs Q E hr h => ?_)
  · obtain ⟨_, _, _, rfl, _⟩ := h
    rfl
  obtain ⟨v, b, os, rfl, n, N, B, q⟩ := h
  have nd := scis_banyan_of.nd
  have hrcounts_from := hr
  have hrwires_of := hr.mono (by decide : 1 ≤ 2)
  have n4 := N.hi
  have n16 := pow_le16 n4
  have l61 : -(2 ^ 62 : Int) ≤ ((2 ^ b : Nat) : Int) := Int.le_trans (by decide) (Int.natCast_nonneg _)
  have u61 : ((2 ^ b : Nat) : Int) < 2 ^ 62 := Int.lt_of_le_of_lt (Int.ofNat_le.mpr n16) (by decide)
  have l62 : -(2 ^ 63 : Int) ≤ ((2 ^ b : Nat) : Int) := Int.le_trans (by decide) (Int.natCast_nonneg _)
  have u62 : ((2 ^ b : Nat) : Int) < 2 ^ 63 := Int.lt_of_le_of_lt (Int.ofNat_le.mpr n16) (by decide)
  refine ⟨_, pss_one (ps_ret (pe_callB (cr_all rfl) (by rfl) T.all (by decide +kernel) (pa_cons (pe_lc (own := [("wire", 1)]) rfl nd (pi_range1 (by rfl) T.range (pa_cons (pe_rd Rwires_of hrwires_of rfl (pa_cons (pv 0) pa_nil)) pa_nil)) (blkOk_by (own := [("wire", 1)]) (N := Nis_banyan_of) (sc := (defScope sis_banyan_of)) (by decide +kernel)) (fun _ _ _ _ _ => (pg_name (i := 1) nd rfl (Or.inl rfl))) (fun _ _ _ _ _ => pts_nil) (fun _ _ _ _ _ => (pe_cmpR (r := rEqD K) (op_eqD hr.units) (pe_rd Rcounts_from hrcounts_from rfl (pa_cons (pv 0) (pa_cons (pv 1) pa_nil))) (pe_op op_rep (pe_lst (pa_cons pe_int pa_nil)) (pe_rd Rwires_of hrwires_of rfl (pa_cons (pv 0) pa_nil))) (nomark _)))) pa_nil))), ?_⟩
  refine ⟨_, rfl, v, b, os, rfl, n, n4, _, rfl, l61, u61, fun Dl hD => ?_⟩
  rw [Int.toNat_natCast]
  refine lc_it walk_r0 (fun i H' => Same H H' ∧ H' Dl = some (.lst (List.replicate i (V.bl true)))) ⟨sm_new hD, upd_same⟩ (fun _ _ _ _ => trivial) (fun i y H1 H2 hi p y1 => ?_) (fun H' p => ?_)
  · obtain ⟨sm, hd⟩ := p
    obtain ⟨rfl, rfl⟩ := y1
    refine ⟨rfl, yesT ⟨_, rfl, _, rfl, v, b, os, i, rfl, n.same sm, N, hi, fun H3 p3 s3 hp3 hv3 => ?_⟩⟩
    refine ⟨(by decide : 1 ≤ sizeLine), fun p4 hp4 => ?_⟩
    have s4 := sm_then (o := .lst [V.int 1]) s3 hp4
    refine ⟨_, rfl, v, b, os, rfl, n.same (sm.trans s4), n4, p4, _, _, rfl, rfl, upd_same, l62, u62, ?_, fun c hc => ?_⟩
    · rw [Int.toNat_natCast]
      exact small_of (by simp; omega)
    have s5 := sm_then (o := .lst ((List.replicate ((2 ^ b : Nat) : Int).toNat [V.int 1]).flatten)) s4 hc
    have e1 : (List.replicate ((2 ^ b : Nat) : Int).toNat [V.int 1]).flatten = (List.replicate (2 ^ b) (1 : Int)).map V.int := by
      rw [Int.toNat_natCast, flat_rep, List.map_replicate]
    rw [cntL_ones B (half_lt N.lo hi)] at hv3
    have n34 : p3 ≠ p4 := ne_of_none hv3 hp4
    have n3c : p3 ≠ c := fun e => by
      rw [← e, upd_ne n34, hv3] at hc
      cases hc
    refine rEqL (ns := List.replicate (2 ^ b) 1) (ms := List.replicate (2 ^ b) 1) (SqL.of (by rw [upd_ne n3c, upd_ne n34]; exact hv3)) (SqL.of (by rw [upd_same, e1])) ?_
    have hd5 := s5 _ _ hd
    refine ⟨_, hd5, ?_, sm_over (sm.trans s5) hD, ?_⟩
    · rw [List.length_replicate]
      exact small_lt (by omega)
    · rw [upd_same, decide_eq_true rfl, ← List.replicate_succ']
  · obtain ⟨sm, hd⟩ := p
    refine ⟨Dl, List.replicate (2 ^ b) true, rfl, SqL.of (by rw [List.map_replicate]; exact hd), ?_⟩
    exact bl_to (Q := Q) (by simp) (q _ sm)
/-! ### need_banyan -/
theorem ok_need_banyan {f : Addr} {fd : FuncData} (D : DefAt K mg "need_banyan" sneed_banyan ["net"] f fd) (Ris_banyan_of : Ready P w K mg base 3 "is_banyan_of" ["net"] spBan)
    (Rneed_net : Ready P w K mg base 3 "need_net" ["net"] spNet) : Ready P w K mg base 4 "need_banyan" ["net"] spBan0 := by
  refine D.ready (D.fn.ok scneed_banyan (fun vs H Q E h => ?_) fun cdv A outer s H vs Q E hr h => ?_)
  · obtain ⟨_, _, _, rfl, _⟩ := h
    rfl
  obtain ⟨v, b, os, rfl, n, N, B, q⟩ := h
  have hris_banyan_of := hr
  have hrneed_net := hr
  refine ⟨_, pss_cons (ps_if (pt_not (pt_val (pe_rd Ris_banyan_of hris_banyan_of rfl (pa_cons (pe_rd Rneed_net hrneed_net rfl (pa_cons (pv 0) pa_nil)) pa_nil))))
      (pss_one (ps_never))
      (pss_nil))
      (pss_one (ps_ret (pv 0))), ?_⟩
  refine ⟨_, rfl, v, b, os, rfl, n, N, fun H1 s1 => ⟨v, b, os, rfl, n.same s1, N, B, fun H2 s2 => ⟨true, rfl, iteF ⟨_, rfl, q _ (s1.trans s2)⟩⟩⟩⟩
/-! ### need_pair -/
def spPair : Sp := fun vs H Q _ => ∃ (v u : V) (b : Nat) (os ps : List (List Nat)), vs = [v, u] ∧ NetAt H v b os ∧ NetAt H u b ps ∧ Net b os ∧ Net b ps ∧ Ban b os ∧ Ban b ps ∧ ∀ H', Same H H' → Q .non H'
theorem ok_need_pair {f : Addr} {fd : FuncData} (D : DefAt K mg "need_pair" sneed_pair ["net", "other"] f fd) (Rneed_banyan : Ready P w K mg base 4 "need_banyan" ["net"] spBan0)
    (Rneed_net : Ready P w K mg base 3 "need_net" ["net"] spNet) : Ready P w K mg base 5 "need_pair" ["net", "other"] spPair := by
  refine D.ready (D.fn.ok scneed_pair (fun vs H Q E h => ?_) fun cdv A outer s H vs Q E hr h => ?_)
  · obtain ⟨_, _, _, _, _, rfl, _⟩ := h
    rfl
  obtain ⟨v, u, b, os, ps, rfl, n, m, N, M, B, C, q⟩ := h
  have hrneed_banyan := hr
  have hrneed_net := hr.mono (by decide : 3 ≤ 4)
  refine ⟨_, pss_cons (ps_expr (pe_rd Rneed_net hrneed_net rfl (pa_cons (pv 0) pa_nil)))
      (pss_cons (ps_if (pt_cmp (pc_neI (pe_ix ix_tup (pe_rd Rneed_net hrneed_net rfl (pa_cons (pv 1) pa_nil)) pe_int (fun _ _ => rfl)) (pe_ix ix_tup (pv 0) pe_int (fun _ _ => rfl))))
      (pss_one (ps_never))
      (pss_nil))
      (pss_cons (ps_expr (pe_rd Rneed_banyan hrneed_banyan rfl (pa_cons (pv 0) pa_nil)))
      (pss_one (ps_expr (pe_rd Rneed_banyan hrneed_banyan rfl (pa_cons (pv 1) pa_nil)))))), ?_⟩
  refine ⟨_, rfl, v, b, os, rfl, n, N, fun H1 s1 => ?_⟩
  refine ⟨_, rfl, u, b, ps, rfl, m.same s1, M, fun H2 s2 => ?_⟩
  have s12 := s1.trans s2
  obtain ⟨a, o, ws, rfl, ha, ho, hw⟩ := n
  obtain ⟨a', o', ws', rfl, ha', ho', hw'⟩ := m
  refine ⟨a', _, 0, _, rfl, rfl, SqT.of (s12 _ _ ha'), atI_nat (j := 0) rfl, _, rfl, a, _, 0, _, rfl, rfl, SqT.of (s12 _ _ ha), atI_nat (j := 0) rfl, _, _, rfl, rfl, false, congrArg V.bl (show (!decide ((b : Int) = (b : Int))) = false by simp), iteF ?_⟩
  refine ⟨_, rfl, _, b, os, rfl, ⟨a, o, ws, rfl, s12 _ _ ha, s12 _ _ ho, hw.same s12⟩, N, B, fun H3 s3 => ?_⟩
  have s13 := s12.trans s3
  refine ⟨_, rfl, _, b, ps, rfl, ⟨a', o', ws', rfl, s13 _ _ ha', s13 _ _ ho', hw'.same s13⟩, M, C, fun H4 s4 => ?_⟩
  exact q _ (s13.trans s4)
/-! ### is_apart -/
def spApart : Sp := fun vs H Q _ => ∃ (a l : Addr) (wy : List Nat) (ws : List V) (os : List (List Nat)), vs = [.ref a, .ref l] ∧ H a = some (.tup (wy.map vN)) ∧ H l = some (.lst ws) ∧ RowsAt H ws os ∧ (∀ o ∈ os, o.length = wy.length) ∧ wy.length ≤ 4 ∧ os.length ≤ 100 ∧
  ∀ H', Same H H' → Q (.bl (apart wy os)) H'
/-- what the comprehension makes -/
def meets (wy : List Nat) (os : List (List Nat)) : List Bool := os.flatMap fun o => (List.range wy.length).map fun r => ng wy r == ng o r
theorem meets_any (wy : List Nat) (os : List (List Nat)) : (meets wy os).any id = os.any (meet wy) := by
  unfold meets meet
  rw [List.any_flatMap]
  congr 1
  funext o
  rw [List.any_map]
  rfl
theorem meets_len (wy : List Nat) (os : List (List Nat)) : (meets wy os).length = os.length * wy.length := by
  unfold meets
  induction os with
  | nil => simp
  | cons o r ih => simp [List.flatMap_cons, ih, Nat.succ_mul]; omega
theorem meets_snoc (wy : List Nat) (os : List (List Nat)) (o : List Nat) : meets wy (os ++ [o]) = meets wy os ++ (List.range wy.length).map fun r => ng wy r == ng o r := by
  unfold meets
  rw [List.flatMap_append]
  simp
theorem ok_is_apart {f : Addr} {fd : FuncData} (T : Glob mg) (D : DefAt K mg "is_apart" sis_apart ["way", "others"] f fd) : Ready P w K mg base 1 "is_apart" ["way", "others"] spApart := by
  refine D.ready (D.fn.ok scis_apart (fun vs H Q E h => ?_) fun cdv A outer s H vs Q E hr h => ?_)
  · obtain ⟨_, _, _, _, _, rfl, _⟩ := h
    rfl
  obtain ⟨a, l, wy, ws, os, rfl, ha, hl, hw, hlen, w4, o100, q⟩ := h
  have nd := scis_apart.nd
  refine ⟨_, pss_one (ps_ret (pe_not (pe_callB (cr_any rfl) (by rfl) T.any (by decide +kernel) (pa_cons (pe_lc2 (own := [("other", 2), ("row", 3), ("wire", 4)]) (vs1 := [3, 4]) rfl nd (pi_list (pv 1)) (blkOk_by (own := [("other", 2), ("row", 3), ("wire", 4)]) (N := Nis_apart) (sc := (defScope sis_apart)) (by decide +kernel)) (by decide) (fun _ _ _ _ _ => (pg_name (i := 2) nd rfl (Or.inl rfl))) (fun _ _ _ _ _ => pts_nil) (fun _ _ _ _ _ => (show PI _ _ _ (iEnumT K _) from (pi_enumT (by rfl) T.enumerate (pa_cons (pv 0) pa_nil)))) (fun _ _ _ _ _ => (show PG _ _ (gTup K 2 _) from pg_tup rfl (pgs_cons (pg_name (i := 3) nd rfl (Or.inl rfl)) (pgs_cons (pg_name (i := 4) nd rfl (Or.inl rfl)) pgs_nil)))) (fun _ _ _ _ _ => pts_nil) (fun _ _ _ _ _ => (pe_cmp (pc_eqI (pv 4) (pe_ix (r := rIxT K) ix_tup (pv 2) (pv 3) (fun _ _ => rfl))) rfl))) pa_nil)))), ?_⟩
  have lw : ws.length = os.length := hw.1
  refine ⟨_, rfl, l, rfl, ⟨_, SqL.of hl⟩, fun Dl hD => out_it (walk_list (xs := ws)) (fun i H' => Same H H' ∧ H' Dl = some (.lst ((meets wy (os.take i)).map V.bl))) ⟨sm_new hD, by rw [upd_same]; rfl⟩ (fun i H' _ p => SqL.of (p.1 _ _ hl)) (fun i x H1 H2 hi p y => ?_) (fun H' p => ?_)⟩
  · obtain ⟨sm, hd⟩ := p
    obtain ⟨rfl, hx⟩ := y
    obtain ⟨p, o, g1, g2, g3⟩ := hw.get (i := i) (by omega)
    have ex : V.ref p = x := Option.some.inj (g1.symm.trans hx)
    subst ex
    have lo := hlen o (List.mem_of_getElem? g2)
    have eo : os.take (i + 1) = os.take i ++ [o] := by rw [List.take_add_one, g2]; rfl
    have hml : (meets wy (os.take i)).length ≤ 400 := by
      rw [meets_len, List.length_take]
      have h1 : min i os.length ≤ 100 := by omega
      exact Nat.le_trans (Nat.mul_le_mul h1 w4) (by decide)
    refine ⟨rfl, yesI ?_⟩
    refine ⟨_, rfl, a, _, rfl, SqT.of (sm _ _ ha), out_it walk_enumT (fun j H' => Same H H' ∧ H' Dl = some (.lst ((meets wy (os.take i) ++ (List.range j).map fun r => ng wy r == ng o r).map V.bl))) ⟨sm, by simpa using hd⟩ (fun j H' _ p => SqT.of (p.1 _ _ ha)) (fun j x H1 H3 hj p y => ?_) (fun H' p => ?_)⟩
    · obtain ⟨sm1, hd1⟩ := p
      obtain ⟨Tp, x1, x2, rfl, hT, rfl, e3, e4⟩ := y
      rw [List.length_map] at hj
      have e3' : vN j = x1 := Option.some.inj e3
      have e4' : vN (ng wy j) = x2 := by
        have z : (wy.map vN)[j]? = some x2 := e4
        rw [List.getElem?_map, ng_some hj] at z
        exact Option.some.inj z
      subst e3' e4'
      have s2 := sm_then (o := .tup [vN j, vN (ng wy j)]) sm1 hT
      have ndT : Dl ≠ Tp := ne_of_none hd1 hT
      refine ⟨Tp, _, rfl, SqT.of upd_same, rfl, _, _, rfl, _, _, rfl, rfl, rfl, yesI ?_⟩
      refine ⟨_, rfl, _, rfl, _, rfl, p, _, _, _, rfl, rfl, SqT.of (s2 _ _ g3), at_map (by rw [lo]; exact hj), _, _, rfl, rfl, _, (by rw [upd_ne ndT]; exact hd1), ?_, sm_over s2 hD, ?_⟩
      · rw [List.length_map, List.length_append, List.length_map, List.length_range]
        exact small_lt (by omega)
      · rw [upd_same, List.range_succ]
        have eb : decide (((ng wy j : Nat) : Int) = ((ng o j : Nat) : Int)) = (ng wy j == ng o j) := by
          rw [Bool.eq_iff_iff, decide_eq_true_iff, beq_iff_eq]
          omega
        show some (HO.lst (_ ++ [V.bl (decide (((ng wy j : Nat) : Int) = ((ng o j : Nat) : Int)))])) = _
        rw [eb]
        simp [List.append_assoc]
    · obtain ⟨sm1, hd1⟩ := p
      refine ⟨sm1, ?_⟩
      rw [List.length_map] at hd1
      rw [hd1, eo, meets_snoc]
  · obtain ⟨sm, hd⟩ := p
    refine ⟨Dl, _, rfl, SqL.of hd, ?_⟩
    have e1 : ((meets wy (os.take ws.length)).any id) = os.any (meet wy) := by
      rw [lw, List.take_length, meets_any]
    exact ⟨_, rfl, bl_to (Q := Q) (by rw [e1]; rfl) (q _ sm)⟩
end
end K90
/-! tables of ways -/
namespace K90
open PySem PySem.Spec PyProof.Rows L2
abbrev pl (p : Nat × Nat) : List Nat := [p.1, p.2]
abbrev kP (p : Nat × Nat) : List Key := [.inl (p.1 : Int), .inl (p.2 : Int)]
theorem kP_inj {p q : Nat × Nat} (h : kP p = kP q) : p = q := by
  obtain ⟨a, b⟩ := p
  obtain ⟨c, d⟩ := q
  simp only [kP, List.cons.injEq, Sum.inl.injEq, and_true] at h
  have h1 : a = c := by omega
  have h2 : b = d := by omega
  rw [h1, h2]
/-- the table as it grows: S the pairs so far -/
structure Built (H : Hp) (os : List (List Nat)) (S : Nat × Nat → Prop) (c : Nat) (kvs : List (List Key × V)) : Prop where
  nd : (kvs.map (·.1)).Nodup
  len : kvs.length ≤ c
  has : ∀ p, S p → ∃ a, valV kvs (kP p) = some (.ref a) ∧ H a = some (.tup ((way os p).map vN))
  only : ∀ k ∈ kvs.map (·.1), ∃ p, S p ∧ k = kP p
theorem Built.nil (H : Hp) (os : List (List Nat)) (S : Nat × Nat → Prop) (h : ∀ p, ¬ S p) : Built H os S 0 [] := ⟨List.nodup_nil, Nat.le_refl _, fun p s => absurd s (h p), fun k m => nomatch m⟩
theorem Built.mono {H H' : Hp} {os : List (List Nat)} {S : Nat × Nat → Prop} {c : Nat} {kvs : List (List Key × V)} (B : Built H os S c kvs) (k : ∀ p l, H p = some (.tup l) → H' p = some (.tup l)) : Built H' os S c kvs :=
  ⟨B.nd, B.len, fun p s => by
    obtain ⟨a, h1, h2⟩ := B.has p s
    exact ⟨a, h1, k _ _ h2⟩, B.only⟩
theorem Built.iff {H : Hp} {os : List (List Nat)} {S S' : Nat × Nat → Prop} {c c' : Nat} {kvs : List (List Key × V)} (B : Built H os S c kvs) (h : ∀ p, S p ↔ S' p) (hc : c ≤ c') : Built H os S' c' kvs :=
  ⟨B.nd, Nat.le_trans B.len hc, fun p s => B.has p ((h p).mpr s), fun k m => by
    obtain ⟨p, h1, h2⟩ := B.only k m
    exact ⟨p, (h p).mp h1, h2⟩⟩
theorem putK_keys_old {kvs : List (List Key × V)} {k : List Key} {v : V} (h : (valV kvs k).isSome = true) : (putK kvs k v).map (·.1) = kvs.map (·.1) := by
  unfold putK
  rw [valV_any, if_pos h, List.map_map]
  refine List.map_congr_left fun x _ => ?_
  show (if x.1 = k then (x.1, v) else x).1 = x.1
  split <;> rfl
theorem Built.put {H : Hp} {os : List (List Nat)} {S : Nat × Nat → Prop} {c : Nat} {kvs : List (List Key × V)} (B : Built H os S c kvs) {p : Nat × Nat} {a : Addr} (ha : H a = some (.tup ((way os p).map vN))) :
    Built H os (fun q => S q ∨ q = p) (c + 1) (putK kvs (kP p) (.ref a)) := by
  refine ⟨?_, Nat.le_trans (length_putK ..) (Nat.succ_le_succ B.len), fun q s => ?_, fun k m => ?_⟩
  · cases e : valV kvs (kP p) with
    | none => exact nd_putK _ B.nd e
    | some x =>
      rw [putK_keys_old (by rw [e]; rfl)]
      exact B.nd
  · rw [valV_put]
    by_cases e : kP q = kP p
    · rw [if_pos e, kP_inj e]
      exact ⟨a, rfl, ha⟩
    · rw [if_neg e]
      rcases s with s | s
      · exact B.has q s
      · exact absurd (by rw [s]) e
  · cases e : valV kvs (kP p) with
    | none =>
      rw [putK_new _ e, List.map_append] at m
      rcases List.mem_append.mp m with z | z
      · obtain ⟨q, h1, h2⟩ := B.only k z
        exact ⟨q, .inl h1, h2⟩
      · exact ⟨p, .inr rfl, List.mem_singleton.mp z⟩
    | some x =>
      rw [putK_keys_old (by rw [e]; rfl)] at m
      obtain ⟨q, h1, h2⟩ := B.only k m
      exact ⟨q, .inl h1, h2⟩
/-- the whole table stands at t -/
def TabAt (H : Hp) (t : Addr) (b : Nat) (os : List (List Nat)) : Prop := ∃ kvs, H t = some (.dT kvs) ∧ Built H os (fun p => p ∈ allPairs (2 ^ b)) 1000 kvs
theorem TabAt.same {H H' : Hp} {t : Addr} {b : Nat} {os : List (List Nat)} (r : TabAt H t b os) (s : Same H H') : TabAt H' t b os := by
  obtain ⟨kvs, h1, h2⟩ := r
  exact ⟨kvs, s _ _ h1, h2.mono fun _ _ e => s _ _ e⟩
theorem TabAt.get {H : Hp} {t a : Addr} {b : Nat} {os : List (List Nat)} {p : Nat × Nat} (r : TabAt H t b os) (hp : p ∈ allPairs (2 ^ b)) (ha : H a = some (.tup ((pl p).map vN))) :
    ∃ x, DGet H t (.ref a) (some (.ref x)) ∧ H x = some (.tup ((way os p).map vN)) := by
  obtain ⟨kvs, h1, h2⟩ := r
  obtain ⟨x, e1, e2⟩ := h2.has p hp
  refine ⟨x, ?_, e2⟩
  rw [← e1]
  exact DGet.t h1 ha
/-! ### its keys, sorted -/
/-- the pair at x -/
def ikO : Option HO → Int × Int
  | some (.tup [.int a, .int b]) => (a, b)
  | _ => (0, 0)
def ik (H : Hp) (x : V) : Int × Int := match x with
  | .ref t => ikO (H t)
  | _ => (0, 0)
theorem ik_at {H : Hp} {t : Addr} {a b : Int} (h : H t = some (.tup [.int a, .int b])) : ik H (.ref t) = (a, b) := by
  show ikO (H t) = _
  rw [h]
  rfl
def ip (p : Nat × Nat) : Int × Int := (p.1, p.2)
theorem ip_inj {p q : Nat × Nat} (h : ip p = ip q) : p = q := by
  obtain ⟨a, b⟩ := p
  obtain ⟨c, d⟩ := q
  simp only [ip, Prod.mk.injEq] at h
  have h1 : a = c := by omega
  have h2 : b = d := by omega
  rw [h1, h2]
theorem pairs_strict (W : Nat) : (allPairs W).Pairwise fun p q => p.1 < q.1 ∨ (p.1 = q.1 ∧ p.2 < q.2) := by
  unfold allPairs
  rw [List.pairwise_flatMap]
  refine ⟨fun x hx => ?_, ?_⟩
  · rw [List.pairwise_map]
    exact List.pairwise_lt_range.imp fun h => .inr ⟨rfl, h⟩
  · refine List.pairwise_lt_range.imp fun {a b} h x hx y hy => ?_
    obtain ⟨_, _, rfl⟩ := List.mem_map.mp hx
    obtain ⟨_, _, rfl⟩ := List.mem_map.mp hy
    exact .inl h
theorem allPairs_nodup (W : Nat) : (allPairs W).Nodup := (pairs_strict W).imp fun {p q} h e => by
  subst e
  omega
/-- lists of pairs, sorted, whose pairs are those of ps -/
theorem sorted_to {H : Hp} {xs ys : List V} {ps : List (Nat × Nat)} (hx : ∀ x ∈ xs, ∃ t, x = V.ref t ∧ H t = some (.tup [.int (ik H x).1, .int (ik H x).2]))
    (hs : SrtO.Srtd (ltP (ik H)) ys) (hst : SrtO.Stb (ltP (ik H)) ys xs) (hp : (xs.map (ik H)).Perm (ps.map ip)) (hps : ps.Pairwise fun p q => p.1 < q.1 ∨ (p.1 = q.1 ∧ p.2 < q.2)) : RowsAt H ys (ps.map pl) := by
  have e : ys.map (ik H) = ps.map ip := by
    refine List.Perm.eq_of_pairwise (le := fun a b => SrtO.lexB b a = false) (fun a b _ _ h1 h2 => ?_) ?_ ?_ ((hst.perm.map _).trans hp)
    · have a1 := SrtO.lexB_no.mp h1
      have a2 := SrtO.lexB_no.mp h2
      exact Prod.ext (by omega) (by omega)
    · exact List.pairwise_map.mpr hs
    · refine List.pairwise_map.mpr (hps.imp fun {p q} h => SrtO.lexB_no.mpr ?_)
      show _
      simp only [ip]
      omega
  have el : ys.length = ps.length := by
    have := congrArg List.length e
    simpa using this
  refine ⟨by rw [List.length_map, el], fun i l h => ?_⟩
  rw [List.getElem?_map] at h
  have hi : i < ps.length := by
    rcases Nat.lt_or_ge i ps.length with z | z
    · exact z
    · rw [List.getElem?_eq_none z] at h
      cases h
  rw [List.getElem?_eq_getElem hi] at h
  cases h
  have hy : ys[i]? = some (ys[i]'(by omega)) := List.getElem?_eq_getElem _
  obtain ⟨t, e1, e2⟩ := hx _ (hst.perm.mem_iff.mp (List.getElem_mem (by omega : i < ys.length)))
  have e3 := congrArg (fun z => z[i]?) e
  simp only [List.getElem?_map, hy, List.getElem?_eq_getElem hi, Option.map_some, Option.some.injEq] at e3
  refine ⟨t, by rw [hy, e1], ?_⟩
  rw [e2, e3]
  rfl
theorem keys_back {H : Hp} {kvs : List (List Key × V)} {bs : List Addr} (r : IsKeys H kvs bs) (ho : ∀ k ∈ kvs.map (·.1), ∃ p, k = kP p) :
    (∀ x ∈ bs.map V.ref, ∃ t, x = V.ref t ∧ H t = some (.tup [.int (ik H x).1, .int (ik H x).2])) ∧ (bs.map V.ref).map (ik H) = (kvs.map (·.1)).map fun k => match k with
      | [.inl a, .inl b] => (a, b)
      | _ => (0, 0) := by
  unfold IsKeys at r
  induction r with
  | nil => exact ⟨fun x m => (nomatch m), rfl⟩
  | @cons kv b kvs bs h t ih =>
    obtain ⟨i1, i2⟩ := ih fun k m => ho k (List.mem_cons_of_mem _ m)
    obtain ⟨p, hp⟩ := ho kv.1 List.mem_cons_self
    rw [hp] at h
    have e := ik_at (H := H) (t := b) (a := (p.1 : Int)) (b := (p.2 : Int)) h
    refine ⟨fun x m => ?_, ?_⟩
    · rcases List.mem_cons.mp m with z | z
      · subst z
        refine ⟨b, rfl, ?_⟩
        rw [e]
        exact h
      · exact i1 x z
    · rw [List.map_cons, List.map_cons, i2, e, List.map_cons, List.map_cons, hp]
/-- sorted(list(table)) -/
theorem keys_sorted {H : Hp} {os : List (List Nat)} {W c : Nat} {kvs : List (List Key × V)} (B : Built H os (fun p => p ∈ allPairs W) c kvs) {bs : List Addr} (r : IsKeys H kvs bs) :
    (∀ x ∈ bs.map V.ref, ∃ t, x = V.ref t ∧ H t = some (.tup [.int (ik H x).1, .int (ik H x).2])) ∧
    ∀ ys, SrtO.Srtd (ltP (ik H)) ys → SrtO.Stb (ltP (ik H)) ys (bs.map V.ref) → RowsAt H ys ((allPairs W).map pl) := by
  obtain ⟨k1, k2⟩ := keys_back r fun k m => by
    obtain ⟨p, _, h⟩ := B.only k m
    exact ⟨p, h⟩
  refine ⟨k1, fun ys h1 h2 => sorted_to k1 h1 h2 ?_ (pairs_strict W)⟩
  have pm : (kvs.map (·.1)).Perm ((allPairs W).map kP) := by
    refine (List.perm_ext_iff_of_nodup B.nd ?_).mpr fun k => ⟨fun m => ?_, fun m => ?_⟩
    · rw [List.nodup_iff_pairwise_ne, List.pairwise_map]
      exact (List.nodup_iff_pairwise_ne.mp (allPairs_nodup W)).imp fun h e => h (kP_inj e)
    · obtain ⟨p, h1, h2⟩ := B.only k m
      exact List.mem_map.mpr ⟨p, h1, h2.symm⟩
    · obtain ⟨p, h1, rfl⟩ := List.mem_map.mp m
      obtain ⟨a, h3, _⟩ := B.has p h1
      exact valV_in h3
  rw [k2]
  refine (pm.map _).trans ?_
  rw [List.map_map]
  exact List.Perm.of_eq (List.map_congr_left fun p _ => rfl)
end K90
namespace K90
open PySem PySem.Spec PyProof.Rows L2
section
variable {P : Program} {w : World} {K : PySem.W.Frag} {mg : Str → Option Value} {base : Heap}
/-! ### ways_table -/
def spTab : Sp := fun vs H Q _ => ∃ (v : V) (b : Nat) (os : List (List Nat)), vs = [v] ∧ NetAt H v b os ∧ Net b os ∧ Ban b os ∧ ∀ H' t, Same H H' → TabAt H' t b os → Q (.ref t) H'
/-- what is stored after j ways of the switch s -/
def stored (b : Nat) (os : List (List Nat)) (s j : Nat) : Nat × Nat → Prop := fun p => (p.2 < 2 ^ b ∧ p.1 / 2 < s) ∨ (p.1 / 2 = s ∧ ∃ w ∈ (fwd os s).take j, lst w = p.2)
theorem stored_zero {b : Nat} {os : List (List Nat)} {s : Nat} (p : Nat × Nat) : stored b os s 0 p ↔ p.2 < 2 ^ b ∧ p.1 / 2 < s := by simp [stored]
theorem stored_succ {b : Nat} {os : List (List Nat)} {s j : Nat} {w : List Nat} (h : (fwd os s)[j]? = some w) (p : Nat × Nat) : ((stored b os s j p ∨ p = (2 * s, lst w)) ∨ p = (2 * s + 1, lst w)) ↔ stored b os s (j + 1) p := by
  obtain ⟨x, y⟩ := p
  unfold stored
  rw [List.take_add_one, h]
  simp only [Option.toList_some, List.mem_append, List.mem_singleton, Prod.mk.injEq]
  constructor
  · rintro (((⟨h1, h2⟩ | ⟨h1, w', h2, h3⟩) | ⟨h1, h2⟩) | ⟨h1, h2⟩)
    · exact .inl ⟨h1, h2⟩
    · exact .inr ⟨h1, w', .inl h2, h3⟩
    · exact .inr ⟨by omega, w, .inr rfl, h2.symm⟩
    · exact .inr ⟨by omega, w, .inr rfl, h2.symm⟩
  · rintro (⟨h1, h2⟩ | ⟨h1, w', h2 | h2, h3⟩)
    · exact .inl (.inl (.inl ⟨h1, h2⟩))
    · exact .inl (.inl (.inr ⟨h1, w', h2, h3⟩))
    · subst h2
      have : x = 2 * s ∨ x = 2 * s + 1 := by omega
      rcases this with e | e
      · exact .inl (.inr ⟨e, h3.symm⟩)
      · exact .inr ⟨e, h3.symm⟩
theorem stored_full {b : Nat} {os : List (List Nat)} (B : Ban b os) {s : Nat} (hs : s < 2 ^ (b - 1)) (p : Nat × Nat) : stored b os s (fwd os s).length p ↔ p.2 < 2 ^ b ∧ p.1 / 2 < s + 1 := by
  unfold stored
  rw [List.take_length]
  have e := fwd_last os s
  have pm := B s hs
  rw [← e] at pm
  constructor
  · rintro (⟨h1, h2⟩ | ⟨h1, w, h2, h3⟩)
    · exact ⟨h1, by omega⟩
    · refine ⟨?_, by omega⟩
      have m := pm.mem_iff.mp (List.mem_map.mpr ⟨w, h2, h3⟩)
      exact List.mem_range.mp m
  · rintro ⟨h1, h2⟩
    by_cases h3 : p.1 / 2 < s
    · exact .inl ⟨h1, h3⟩
    · have m := pm.mem_iff.mpr (List.mem_range.mpr h1)
      obtain ⟨w, h4, h5⟩ := List.mem_map.mp m
      exact .inr ⟨by omega, w, h4, h5⟩
theorem fwd_way {b : Nat} {os : List (List Nat)} (N : Net b os) (B : Ban b os) {s j : Nat} (hs : s < 2 ^ (b - 1)) {w : List Nat} (h : (fwd os s)[j]? = some w) : w = way os (2 * s, lst w) ∧ w = way os (2 * s + 1, lst w) ∧ w ≠ [] ∧ w.length = b ∧ lst w < 2 ^ b := by
  have m := List.mem_of_getElem? h
  have ok := fwd_ok N hs
  have l1 := ok.len w m
  have ne : w ≠ [] := fun e => by
    rw [e] at l1
    have := N.lo
    simp at l1
    omega
  have l2 := ok.lt w m _ (lst_mem ne)
  have e1 : 2 * s / 2 = s := by omega
  have e2 : (2 * s + 1) / 2 = s := by omega
  exact ⟨way_eq B (p := (2 * s, lst w)) (by rw [e1]; exact hs) (by rw [e1]; exact m) rfl l2, way_eq B (p := (2 * s + 1, lst w)) (by rw [e2]; exact hs) (by rw [e2]; exact m) rfl l2, ne, l1, l2⟩
theorem ways_le {b : Nat} {os : List (List Nat)} (N : Net b os) (s : Nat) : (fwd os s).length ≤ 16 := by
  rw [fwd_len]
  have h1 := N.rows
  have h2 := N.hi
  exact Nat.le_trans (Nat.pow_le_pow_right (by decide) (by omega : os.length + 1 ≤ 4)) (by decide)
theorem fwdAt_le {b : Nat} {os : List (List Nat)} (N : Net b os) (s r : Nat) (hr : r ≤ os.length) : (fwdAt os s r).length ≤ 16 := by
  rw [fwdAt_len os s r hr]
  have h1 := N.rows
  have h2 := N.hi
  exact Nat.le_trans (Nat.pow_le_pow_right (by decide) (by omega : r + 1 ≤ 4)) (by decide)
/-- range(0, 2 n, 2) -/
theorem rgc_two {n : Nat} (h : n ≤ 8) : RgC 0 ((2 * n : Nat) : Int) 2 n := by
  have : n = 0 ∨ n = 1 ∨ n = 2 ∨ n = 3 ∨ n = 4 ∨ n = 5 ∨ n = 6 ∨ n = 7 ∨ n = 8 := by omega
  rcases this with e | e | e | e | e | e | e | e | e <;> subst e <;> exact ⟨by decide, by decide, by decide, by decide⟩
/-- the ways grown by one row, as the comprehension makes them -/
theorem ext_take {o : List Nat} {rows : List (List Nat)} {j : Nat} {w : List Nat} (h : rows[j]? = some w) : ext o (rows.take (j + 1)) = ext o (rows.take j) ++ (nxt o (lst w)).map fun x => w ++ [x] := by
  unfold ext
  rw [List.take_add_one, h, List.flatMap_append]
  simp
theorem nxt_len (o : List Nat) (x : Nat) : (nxt o x).length = 2 := rfl
theorem ok_ways_table {f : Addr} {fd : FuncData} (T : Glob mg) (D : DefAt K mg "ways_table" sways_table ["net"] f fd) (Rwires_of : Ready P w K mg base 1 "wires_of" ["net"] spWires)
    (Rnext_wires : Ready P w K mg base 1 "next_wires" ["net", "row", "wire"] spNext) : Ready P w K mg base 2 "ways_table" ["net"] spTab := by
  refine D.ready (D.fn.ok scways_table (fun vs H Q E h => ?_) fun cdv A outer s H vs Q E hr h => ?_)
  · obtain ⟨_, _, _, rfl, _⟩ := h
    rfl
  obtain ⟨v, b, os, rfl, ⟨a, o, ws, rfl, ha, ho, hw⟩, N, B, q⟩ := h
  have nd := scways_table.nd
  have hu := hu_of hr
  have hrwires_of := hr
  have hrnext_wires := hr
  have n4 := N.hi
  have n1 := N.lo
  have n16 := pow_le16 n4
  have hph := pow_half N.lo
  have hrw := N.rows
  have lenw : ws.length = os.length := hw.1
  refine ⟨_, pss_cons (ps_set (i := 1) nd rfl (Or.inl rfl) pe_dnewT)
      (pss_cons (ps_for PassesOwn.never rfl (pi_range3 (by rfl) T.range (pa_cons pe_int (pa_cons (pe_rd Rwires_of hrwires_of rfl (pa_cons (pv 0) pa_nil)) (pa_cons pe_int pa_nil)))) (pg_name (i := 2) nd rfl (Or.inl rfl))
      (pss_cons (ps_set (i := 3) nd rfl (Or.inl rfl) (pe_lst (pa_cons (pe_tup (pa_cons (pv 2) pa_nil)) (pa_cons (pe_tup (pa_cons (pe_op op_add (pv 2) pe_int) pa_nil)) pa_nil))))
        (pss_cons (ps_for PassesOwn.never rfl (pi_range1 (by rfl) T.range (pa_cons (pe_callB call_len_seq (by rfl) T.len PySem.boot_len (pa_cons (pe_ix ix_tup (pv 0) pe_int (fun _ _ => rfl)) pa_nil)) pa_nil)) (pg_name (i := 4) nd rfl (Or.inr rfl))
        (pss_one (ps_setLc2 (i := 3) (own := [("way", 5), ("wire", 6)]) (vs1 := [6]) rfl nd rfl rfl (sw_true rfl rfl rfl (by decide +kernel)) (pi_list (pv 3)) (blkOk_by (own := [("way", 5), ("wire", 6)]) (N := Nways_table) (sc := (defScope sways_table)) (by decide +kernel)) (by decide) (fun _ _ _ _ _ => (pg_name (i := 5) nd rfl (Or.inl rfl))) (fun _ _ _ _ _ => pts_nil) (fun _ _ _ _ _ => (show PI _ _ _ (iList K _) from (pi_list (pe_rd Rnext_wires hrnext_wires rfl (pa_cons (pv 0) (pa_cons (pv 4) (pa_cons (pe_ix (r := rIxT K) ix_tup (pv 5) (pe_un un_neg pe_int) (fun _ _ => rfl)) pa_nil))))))) (fun _ _ _ _ _ => (pg_name (i := 6) nd rfl (Or.inl rfl))) (fun _ _ _ _ _ => pts_nil) (fun _ _ _ _ _ => (pe_tup (show PA _ _ (StX.tStar K _ _) from (StX.pa_star (pv 5) (pa_cons (pv 6) pa_nil))))))))
        (pss_one (ps_for PassesOwn.never rfl (pi_list (pv 3)) (pg_name (i := 5) nd rfl (Or.inl rfl))
        (pss_cons (ps_dput hu (pv 1) (pe_tup (pa_cons (pv 2) (pa_cons (pe_ix ix_tup (pv 5) (pe_un un_neg pe_int) (fun _ _ => rfl)) pa_nil))) (pv 5) rfl)
          (pss_one (ps_dput hu (pv 1) (pe_tup (pa_cons (pe_op op_add (pv 2) pe_int) (pa_cons (pe_ix ix_tup (pv 5) (pe_un un_neg pe_int) (fun _ _ => rfl)) pa_nil))) (pv 5) rfl))))))))
      (pss_one (ps_ret (pv 1)))), ?_⟩
  refine fun t ht => ?_
  have s0 : Same H (upd H t (.dT [])) := sm_new ht
  refine ⟨_, rfl, _, b, os, rfl, ⟨a, o, ws, rfl, s0 _ _ ha, s0 _ _ ho, hw.same s0⟩, n4, _, _, _, 2 ^ (b - 1), rfl, by rw [← hph]; exact rgc_two (by omega), ?_⟩
  refine for_rangeC (fun i σ H' => Same H H' ∧ ∃ y2 y3 y4 y5 y6 kvs, σ = [some (.ref a), some (.ref t), y2, y3, y4, y5, y6] ∧ H' t = some (.dT kvs) ∧ Built H' os (fun p => p.2 < 2 ^ b ∧ p.1 / 2 < i) (i * 64) kvs)
    ⟨s0, _, _, _, _, _, [], rfl, upd_same, (Built.nil _ os _ fun p => by omega).iff (fun p => Iff.rfl) (by omega)⟩ (fun i σ H1 hi p => ?_) (fun σ H' p => ?_)
  · obtain ⟨s1, y2, y3, y4, y5, y6, kvs, rfl, ht1, hB⟩ := p
    have ef : (0 : Int) + (i : Nat) * 2 = ((2 * i : Nat) : Int) := by omega
    have ef2 : (0 : Int) + (i : Nat) * 2 + 1 = ((2 * i + 1 : Nat) : Int) := by omega
    refine ⟨_, rfl, ?_⟩
    have hi8 : 2 * i + 1 < 2 ^ b := by omega
    have nb : ∀ {H' : Hp}, Same H H' → NetAt H' (.ref a) b os := fun z => ⟨a, o, ws, rfl, z _ _ ha, z _ _ ho, hw.same z⟩
    rw [ef]
    refine ⟨(by decide : 1 ≤ sizeLine), fun p1 hp1 => ⟨_, rfl, _, _, rfl, rfl, (by decide : 1 ≤ sizeLine), fun p2 hp2 => ⟨(by decide : 2 ≤ sizeLine), fun c hc => ?_⟩⟩⟩
    have n12 : p1 ≠ p2 := fun e => by
      rw [← e, upd_same] at hp2
      cases hp2
    have s2 : Same H (upd H1 p1 (.tup [vN (2 * i)])) := sm_then s1 hp1
    have s3 : Same H (upd (upd H1 p1 (.tup [vN (2 * i)])) p2 (.tup [V.int (((2 * i : Nat) : Int) + 1)])) := sm_then s2 hp2
    have ntc : ∀ {x : Addr} {u : HO} {H' : Hp}, H' x = none → H' t = some u → t ≠ x := fun h1 h2 => ne_of_none h2 h1
    have nt1 : t ≠ p1 := ne_of_none ht1 hp1
    have nt2 : t ≠ p2 := ne_of_none (by rw [upd_ne nt1]; exact ht1) hp2
    have nt3 : t ≠ c := ne_of_none (by rw [upd_ne nt2, upd_ne nt1]; exact ht1) hc
    have k1 : Same H1 (upd (upd H1 p1 (.tup [vN (2 * i)])) p2 (.tup [V.int (((2 * i : Nat) : Int) + 1)])) := sm_then (sm_new hp1) hp2
    have k2 := sm_then (o := .lst [V.ref p1, V.ref p2]) k1 hc
    have r0 : RowsAt (upd (upd (upd H1 p1 (.tup [vN (2 * i)])) p2 (.tup [V.int (((2 * i : Nat) : Int) + 1)])) c (.lst [V.ref p1, V.ref p2])) [V.ref p1, V.ref p2] (fwdAt os i 0) := by
      have q1 : (upd (upd (upd H1 p1 (.tup [vN (2 * i)])) p2 (.tup [V.int (((2 * i : Nat) : Int) + 1)])) c (.lst [V.ref p1, V.ref p2])) p1 = some (.tup ([2 * i].map vN)) := by
        have z : p1 ≠ c := ne_of_none (o := .tup [vN (2 * i)]) (by rw [upd_ne n12, upd_same]) hc
        rw [upd_ne z, upd_ne n12, upd_same]
        rfl
      have q2 : (upd (upd (upd H1 p1 (.tup [vN (2 * i)])) p2 (.tup [V.int (((2 * i : Nat) : Int) + 1)])) c (.lst [V.ref p1, V.ref p2])) p2 = some (.tup ([2 * i + 1].map vN)) := by
        have z : p2 ≠ c := ne_of_none (o := .tup [V.int (((2 * i : Nat) : Int) + 1)]) (by rw [upd_same]) hc
        rw [upd_ne z, upd_same]
        rfl
      exact (RowsAt.one q1).app (RowsAt.one q2)
    refine ⟨_, rfl, a, _, 1, _, rfl, rfl, SqT.of ((s1.trans k2) _ _ ha), atI_nat (j := 1) rfl, o, ws, rfl, .inr (SqT.of ((s1.trans k2) _ _ ho)), _, rfl, by omega, by omega, ?_⟩
    rw [Int.toNat_natCast, lenw]
    refine for_it walk_r0 (fun r σ H' => Same H1 H' ∧ ∃ c vs y4 y5 y6, σ = [some (.ref a), some (.ref t), some (vN (2 * i)), some (.ref c), y4, y5, y6] ∧ H' c = some (.lst vs) ∧ RowsAt H' vs (fwdAt os i r))
      ⟨k2, c, _, y4, y5, y6, rfl, upd_same, r0⟩ (fun _ _ _ _ _ => trivial) (fun r y σ H2 H3 hr1 p y1 => ?_) (fun σ H' p => ?_)
    · obtain ⟨k3, c, vs, y4, y5, y6, rfl, hc3, hr3⟩ := p
      obtain ⟨rfl, rfl⟩ := y1
      obtain ⟨pl1, l, g1, g2, g3⟩ := hw.get (i := r) hr1
      have oL := N.ord l (List.mem_of_getElem? g2)
      have lv : vs.length = (fwdAt os i r).length := hr3.1
      have l16 := fwdAt_le N i r (by omega)
      have okr := fwdAt_ok N hi r (by omega)
      refine ⟨_, rfl, _, rfl, ⟨vs, SqL.of hc3⟩, fun Dl hD => ?_⟩
      refine out_it (walk_list (xs := vs)) (fun j H' => Same H3 H' ∧ ∃ us, H' Dl = some (.lst us) ∧ RowsAt H' us (ext l ((fwdAt os i r).take j)))
        ⟨sm_new hD, [], upd_same, RowsAt.nil _⟩ (fun j H' _ p => SqL.of (p.1 _ _ hc3)) (fun j x H4 H5 hj p y => ?_) (fun H' p => ?_)
      · obtain ⟨k4, us, hd, hru⟩ := p
        obtain ⟨rfl, hx⟩ := y
        obtain ⟨pw, wy, e1, e2, e3⟩ := hr3.get (i := j) (by omega)
        have ex : V.ref pw = x := Option.some.inj (e1.symm.trans hx)
        subst ex
        have mw := List.mem_of_getElem? e2
        have ll := okr.len wy mw
        have ne : wy ≠ [] := fun e => by
          rw [e] at ll
          simp at ll
          omega
        have lt := okr.lt wy mw _ (lst_mem ne)
        have sH := (s1.trans k3).trans k4
        refine ⟨rfl, yesI ?_⟩
        refine ⟨_, rfl, _, rfl, _, rfl, _, rfl, pw, _, _, _, rfl, rfl, SqT.of (k4 _ _ e3), at_neg ne, _, b, os, r, lst wy, l, rfl, nb sH, g2, by rw [oL.len]; exact lt, fun H6 p6 k6 hp6 hv6 => ?_⟩
        have hd6 := k6 _ _ hd
        have n6 : Dl ≠ p6 := ne_of_none hd hp6
        refine ⟨_, rfl, ⟨_, SqL.of hv6⟩, ?_⟩
        refine out_it (walk_list (xs := (nxt l (lst wy)).map vN)) (fun m H' => Same H3 H' ∧ H' p6 = some (.lst ((nxt l (lst wy)).map vN)) ∧ ∃ us, H' Dl = some (.lst us) ∧ RowsAt H' us (ext l ((fwdAt os i r).take j) ++ ((nxt l (lst wy)).take m).map fun x => wy ++ [x]))
          ⟨k4.trans k6, hv6, us, hd6, by simpa using hru.same k6⟩ (fun m H' _ p => SqL.of p.2.1) (fun m x H7 H8 hm p y => ?_) (fun H' p => ?_)
        · obtain ⟨k7, hv7, us7, hd7, hr7⟩ := p
          obtain ⟨rfl, hx⟩ := y
          rw [List.length_map] at hm
          have hfar : (nxt l (lst wy))[m]? = some (ng (nxt l (lst wy)) m) := ng_some hm
          have ey : vN (ng (nxt l (lst wy)) m) = x := by
            rw [List.getElem?_map, hfar] at hx
            exact Option.some.inj hx
          subst ey
          refine ⟨rfl, yesI ?_⟩
          refine ⟨_, rfl, pw, _, rfl, .inl (SqT.of (k7 _ _ e3)), _, rfl, small_of (by simp; omega), fun p8 hp8 => ?_⟩
          have n8 : Dl ≠ p8 := ne_of_none hd7 hp8
          have n68 : p6 ≠ p8 := ne_of_none hv7 hp8
          refine ⟨us7, by rw [upd_ne n8]; exact hd7, ?_, sm_over (sm_then k7 hp8) hD, ?_, _, upd_same, ?_⟩
          · rw [hr7.1, List.length_append, ext_len, List.length_map, List.length_take, List.length_take, nxt_len]
            exact small_lt (by omega)
          · rw [upd_ne n6.symm, upd_ne n68]
            exact hv7
          · have z8 : (upd (upd H8 p8 (.tup (wy.map vN ++ [vN (ng (nxt l (lst wy)) m)]))) Dl (.lst (us7 ++ [V.ref p8]))) p8 = some (.tup ((wy ++ [ng (nxt l (lst wy)) m]).map vN)) := by
              rw [upd_ne n8.symm, upd_same, List.map_append]
              rfl
            rw [List.take_add_one, hfar, List.map_append, ← List.append_assoc]
            refine (hr7.mono fun z u e => ?_).snoc z8
            rw [upd_ne fun e5 => ?_, upd_ne (ne_of_none e hp8)]
            · exact e
            · rw [e5, hd7] at e
              cases e
        · obtain ⟨k7, hv7, us7, hd7, hr7⟩ := p
          refine ⟨k7, us7, hd7, ?_⟩
          rw [ext_take e2]
          rw [List.length_map, List.take_length] at hr7
          exact hr7
      · obtain ⟨k4, us, hd, hru⟩ := p
        refine ⟨k3.trans k4, Dl, us, _, _, _, rfl, hd, ?_⟩
        rw [lv, List.take_length] at hru
        rw [fwdAt_succ g2]
        exact hru
    · obtain ⟨k3, c, vs, y4, y5, y6, rfl, hc3, hr3⟩ := p
      rw [fwdAt_all] at hr3
      have lv : vs.length = (fwd os i).length := hr3.1
      have l16 := ways_le N i
      have ht3 := k3 _ _ ht1
      refine ⟨_, rfl, c, rfl, ⟨vs, SqL.of hc3⟩, for_it (walk_list (xs := vs)) (fun j σ H' => Same H H' ∧ H' c = some (.lst vs) ∧ RowsAt H' vs (fwd os i) ∧ ∃ y5 kvs, σ = [some (.ref a), some (.ref t), some (vN (2 * i)), some (.ref c), y4, y5, y6] ∧ H' t = some (.dT kvs) ∧ Built H' os (stored b os i j) (i * 64 + j * 2) kvs)
        ⟨s1.trans k3, hc3, hr3, y5, kvs, rfl, ht3, (hB.mono fun _ _ e => k3 _ _ e).iff (fun p => (stored_zero p).symm) (by omega)⟩ (fun j σ H' _ p => SqL.of p.2.1) (fun j x σ H4 H5 hj p y => ?_) (fun σ H' p => ?_)⟩
      · obtain ⟨k4, hc4, hr4, y5, kvs4, rfl, ht4, hB4⟩ := p
        obtain ⟨rfl, hx⟩ := y
        obtain ⟨pw, wy, e1, e2, e3⟩ := hr4.get (i := j) (by omega)
        have ex : V.ref pw = x := Option.some.inj (e1.symm.trans hx)
        subst ex
        obtain ⟨f1, f2, ne, fl, lt⟩ := fwd_way N B hi e2
        have nct : c ≠ t := fun e => by
          rw [e, ht4] at hc4
          cases hc4
        have jl : j < 16 := by omega
        refine ⟨_, rfl, _, rfl, _, rfl, _, rfl, _, rfl, pw, _, _, _, rfl, rfl, SqT.of e3, at_neg ne, (by decide : 2 ≤ sizeLine), fun p5 hp5 => ?_⟩
        have n5 : t ≠ p5 := ne_of_none ht4 hp5
        have e35 : (upd H5 p5 (.tup [vN (2 * i), vN (lst wy)])) pw = some (.tup (wy.map vN)) := by
          rw [upd_ne (ne_of_none e3 hp5)]
          exact e3
        have hB5 : Built (upd H5 p5 (.tup [vN (2 * i), vN (lst wy)])) os (stored b os i j) (i * 64 + j * 2) kvs4 := hB4.mono fun z u e => by
          rw [upd_ne (ne_of_none e hp5)]
          exact e
        refine ⟨t, _, rfl, DPut.t (k := kP (2 * i, lst wy)) (by rw [upd_ne n5]; exact ht4) upd_same (Nat.lt_of_le_of_lt hB4.len (small_lt (by omega))), ?_⟩
        have hB6 := hB5.put (p := (2 * i, lst wy)) (a := pw) (by rw [← f1]; exact e35)
        have s6 : Same H (upd (upd H5 p5 (.tup [vN (2 * i), vN (lst wy)])) t (.dT (putK kvs4 (kP (2 * i, lst wy)) (.ref pw)))) := sm_over (sm_then k4 hp5) ht
        have tup6 : ∀ {H' : Hp} {d : List (List Key × V)} {d' : List (List Key × V)} (z : Addr) (u : List V), H' t = some (.dT d) → H' z = some (.tup u) → (upd H' t (.dT d')) z = some (.tup u) := fun {H'} {d} {d'} z u e0 e => by
          rw [upd_ne fun e5 => ?_]
          · exact e
          · rw [e5, e0] at e
            cases e
        have ht5 : (upd H5 p5 (.tup [vN (2 * i), vN (lst wy)])) t = some (.dT kvs4) := by
          rw [upd_ne n5]
          exact ht4
        have e36 := tup6 (d' := putK kvs4 (kP (2 * i, lst wy)) (.ref pw)) _ _ ht5 e35
        have hB7 := hB6.mono (H' := upd (upd H5 p5 (.tup [vN (2 * i), vN (lst wy)])) t (.dT (putK kvs4 (kP (2 * i, lst wy)) (.ref pw)))) fun z u e => tup6 _ _ ht5 e
        have hc6 : (upd (upd H5 p5 (.tup [vN (2 * i), vN (lst wy)])) t (.dT (putK kvs4 (kP (2 * i, lst wy)) (.ref pw)))) c = some (.lst vs) := by
          rw [upd_ne nct, upd_ne (ne_of_none hc4 hp5)]
          exact hc4
        have hr6 : RowsAt (upd (upd H5 p5 (.tup [vN (2 * i), vN (lst wy)])) t (.dT (putK kvs4 (kP (2 * i, lst wy)) (.ref pw)))) vs (fwd os i) := hr4.mono fun z u e => tup6 _ _ ht5 (by rw [upd_ne (ne_of_none e hp5)]; exact e)
        refine ⟨_, rfl, _, rfl, _, rfl, _, _, rfl, rfl, _, rfl, _, rfl, pw, _, _, _, rfl, rfl, SqT.of e36, at_neg ne, (by decide : 2 ≤ sizeLine), fun p7 hp7 => ?_⟩
        have n7 : t ≠ p7 := ne_of_none upd_same hp7
        have ht7 := (show (upd (upd (upd H5 p5 (.tup [vN (2 * i), vN (lst wy)])) t (.dT (putK kvs4 (kP (2 * i, lst wy)) (.ref pw)))) p7 (.tup [V.int (((2 * i : Nat) : Int) + 1), vN (lst wy)])) t = some (.dT (putK kvs4 (kP (2 * i, lst wy)) (.ref pw))) by rw [upd_ne n7, upd_same])
        have up7 : ∀ z u, (upd (upd H5 p5 (.tup [vN (2 * i), vN (lst wy)])) t (.dT (putK kvs4 (kP (2 * i, lst wy)) (.ref pw)))) z = some u → (upd (upd (upd H5 p5 (.tup [vN (2 * i), vN (lst wy)])) t (.dT (putK kvs4 (kP (2 * i, lst wy)) (.ref pw)))) p7 (.tup [V.int (((2 * i : Nat) : Int) + 1), vN (lst wy)])) z = some u := fun z u e => by
          rw [upd_ne (ne_of_none e hp7)]
          exact e
        have hl7 : (putK kvs4 (kP (2 * i, lst wy)) (.ref pw)).length < sizeLine := Nat.lt_of_le_of_lt hB7.len (small_lt (by omega))
        refine ⟨t, _, rfl, DPut.t (k := kP (2 * i + 1, lst wy)) ht7 (by rw [upd_same]; rfl) hl7, ?_⟩
        have hB8 := (hB7.mono fun z u e => up7 z _ e).put (p := (2 * i + 1, lst wy)) (a := pw) (by rw [← f2]; exact up7 _ _ e36)
        refine ⟨sm_over (sm_then s6 hp7) ht, ?_, ?_, _, _, rfl, upd_same, ?_⟩
        · rw [upd_ne nct]
          exact up7 _ _ hc6
        · exact hr6.mono fun z u e => tup6 _ _ ht7 (up7 _ _ e)
        · exact (hB8.mono fun z u e => tup6 _ _ ht7 e).iff (fun p => stored_succ e2 p) (by omega)
      · obtain ⟨k4, hc4, hr4, y5, kvs4, rfl, ht4, hB4⟩ := p
        refine ⟨k4, _, _, _, _, _, kvs4, rfl, ht4, hB4.iff (fun p => ?_) (by omega)⟩
        rw [lv]
        exact stored_full B hi p
  · obtain ⟨s1, y2, y3, y4, y5, y6, kvs, rfl, ht1, hB⟩ := p
    refine ⟨_, rfl, q _ t s1 ⟨kvs, ht1, hB.iff (fun p => ?_) (by omega)⟩⟩
    rw [mem_allPairs]
    omega
end
end K90
namespace K90
open PySem PySem.Spec PyProof.Rows L2
/-! ### seeking the least parting -/
theorem find_hit {α : Type} {l : List α} {P : α → Bool} {j : Nat} {x : α} (h : (l.take j).find? P = none) (e : l[j]? = some x) (hx : P x = true) : l.find? P = some x := by
  have hj : j < l.length := (List.getElem?_eq_some_iff.mp e).1
  have e2 : l = l.take j ++ x :: l.drop (j + 1) := by
    have ex : l[j] = x := (List.getElem?_eq_some_iff.mp e).2
    rw [← ex, ← List.drop_eq_getElem_cons hj, List.take_append_drop]
  rw [e2, List.find?_append, h, Option.none_or, List.find?_cons, hx]
theorem find_miss {α : Type} {l : List α} {P : α → Bool} {j : Nat} {x : α} (h : (l.take j).find? P = none) (e : l[j]? = some x) (hx : P x = false) : (l.take (j + 1)).find? P = none := by
  rw [List.take_add_one, e, List.find?_append, h]
  simp [hx]
theorem some_hit {α β : Type} {l : List α} {F : α → Option β} {j : Nat} {x : α} {y : β} (h : (l.take j).findSome? F = none) (e : l[j]? = some x) (hx : F x = some y) : l.findSome? F = some y := by
  have hj : j < l.length := (List.getElem?_eq_some_iff.mp e).1
  have e2 : l = l.take j ++ x :: l.drop (j + 1) := by
    have ex : l[j] = x := (List.getElem?_eq_some_iff.mp e).2
    rw [← ex, ← List.drop_eq_getElem_cons hj, List.take_append_drop]
  rw [e2, List.findSome?_append, h, Option.none_or, List.findSome?_cons, hx]
theorem some_miss {α β : Type} {l : List α} {F : α → Option β} {j : Nat} {x : α} (h : (l.take j).findSome? F = none) (e : l[j]? = some x) (hx : F x = none) : (l.take (j + 1)).findSome? F = none := by
  rw [List.take_add_one, e, List.findSome?_append, h]
  simp [hx]
/-- what is beyond p stands behind it -/
theorem beyond_drop {W i : Nat} {p : Nat × Nat} (e : (allPairs W)[i]? = some p) : ((allPairs W).drop (i + 1)).filter (beyond p) = (allPairs W).filter (beyond p) := by
  have hi : i < (allPairs W).length := (List.getElem?_eq_some_iff.mp e).1
  have ep : (allPairs W)[i] = p := (List.getElem?_eq_some_iff.mp e).2
  have h : ((allPairs W).take (i + 1)).filter (beyond p) = [] := by
    refine List.filter_eq_nil_iff.mpr fun q hq hb => ?_
    obtain ⟨j, hj, e2⟩ := List.mem_iff_getElem.mp hq
    rw [List.getElem_take] at e2
    rw [List.length_take] at hj
    unfold beyond at hb
    rw [Bool.and_eq_true, decide_eq_true_iff] at hb
    rcases Nat.lt_or_ge j i with z | z
    · have := List.pairwise_iff_getElem.mp (pairs_strict W) j i (by omega) hi z
      rw [e2, ep] at this
      omega
    · have ej : j = i := by omega
      subst ej
      rw [ep] at e2
      subst e2
      omega
  have e3 := congrArg (List.filter (beyond p)) (List.take_append_drop (i + 1) (allPairs W))
  rw [List.filter_append, h, List.nil_append] at e3
  exact e3
theorem parting_eq (W : Nat) (f g : Nat × Nat → List Nat) : parting W f g = (allPairs W).findSome? fun p => (((allPairs W).filter (beyond p)).find? (partsAt f g p)).map fun q => (p, q) := rfl
theorem allPairs_len (W : Nat) : (allPairs W).length = W * W := by
  unfold allPairs
  rw [List.length_flatMap]
  simp [List.map_const']
theorem cutV_from (xs : List V) (k : Nat) : cutV xs (some (k : Int)) none = xs.drop k := by
  unfold cutV
  rw [HT.sIx_nat, HT.sIx_none]
  rw [List.take_of_length_le (by rw [List.length_drop]; omega)]
  rcases Nat.le_total k xs.length with h | h
  · rw [Nat.min_eq_left h]
  · rw [Nat.min_eq_right h, List.drop_eq_nil_of_le h, List.drop_eq_nil_of_le (Nat.le_refl _)]
theorem IsKeys.mono {H H' : Hp} {kvs : List (List Key × V)} {bs : List Addr} (r : IsKeys H kvs bs) (k : ∀ p l, H p = some (.tup l) → H' p = some (.tup l)) : IsKeys H' kvs bs := by
  unfold IsKeys at r ⊢
  induction r with
  | nil => exact .nil
  | cons h t ih => exact .cons (k _ _ h) ih
/-- sorted(list(table)) -/
theorem sort_tab {K : PySem.W.Frag} {H : Hp} {t : Addr} {b : Nat} {os : List (List Nat)} (T : TabAt H t b os) :
    ∃ kvs, Rd H t (.dT kvs) ∧ ∀ p bs, H p = none → IsKeys H kvs bs → SqL K (upd H p (.lst (bs.map V.ref))) p (bs.map V.ref) ∧
      (∀ x ∈ bs.map V.ref, ∃ t, x = V.ref t ∧ (upd H p (.lst (bs.map V.ref))) t = some (.tup [.int (ik (upd H p (.lst (bs.map V.ref))) x).1, .int (ik (upd H p (.lst (bs.map V.ref))) x).2])) ∧
      ∀ ys r, SrtO.Srtd (ltP (ik (upd H p (.lst (bs.map V.ref))))) ys → SrtO.Stb (ltP (ik (upd H p (.lst (bs.map V.ref))))) ys (bs.map V.ref) → (upd H p (.lst (bs.map V.ref))) r = none →
        Same H (upd (upd H p (.lst (bs.map V.ref))) r (.lst ys)) ∧ (upd (upd H p (.lst (bs.map V.ref))) r (.lst ys)) r = some (.lst ys) ∧ RowsAt (upd (upd H p (.lst (bs.map V.ref))) r (.lst ys)) ys ((allPairs (2 ^ b)).map pl) := by
  obtain ⟨kvs, h1, h2⟩ := T
  refine ⟨kvs, .inl h1, fun p bs hp hk => ?_⟩
  have up : ∀ z l, H z = some (.tup l) → (upd H p (.lst (bs.map V.ref))) z = some (.tup l) := fun z l e => by
    rw [upd_ne (ne_of_none e hp)]
    exact e
  obtain ⟨k1, k2⟩ := keys_sorted (h2.mono up) (IsKeys.mono hk up)
  refine ⟨SqL.of upd_same, k1, fun ys r hs hst hr => ?_⟩
  refine ⟨sm_then (sm_new hp) hr, upd_same, (k2 ys hs hst).mono fun z l e => ?_⟩
  rw [upd_ne (ne_of_none e hr)]
  exact e
end K90
namespace K90
open PySem PySem.Spec PyProof.Rows L2
/-- the answer of first_parting -/
def PartV (H : Hp) : V → Option ((Nat × Nat) × (Nat × Nat)) → Prop
  | x, none => x = .non
  | x, some (p, q) => ∃ a c d, x = .ref a ∧ H a = some (.tup [V.ref c, V.ref d]) ∧ H c = some (.tup ((pl p).map vN)) ∧ H d = some (.tup ((pl q).map vN))
theorem PartV.same {H H' : Hp} {x : V} : ∀ {r}, PartV H x r → Same H H' → PartV H' x r
  | none, h, _ => h
  | some (p, q), ⟨a, c, d, e, h1, h2, h3⟩, s => ⟨a, c, d, e, s _ _ h1, s _ _ h2, s _ _ h3⟩
theorem apart_meet (w o : List Nat) : apart w [o] = !meet w o := apart_one w o
/-- the rows of pairs -/
theorem RowsAt.getP {H : Hp} {vs : List V} {ps : List (Nat × Nat)} {i : Nat} (r : RowsAt H vs (ps.map pl)) (h : i < ps.length) : ∃ t p, vs[i]? = some (V.ref t) ∧ ps[i]? = some p ∧ H t = some (.tup ((pl p).map vN)) := by
  obtain ⟨t, h1, h2⟩ := r.2 i (pl ps[i]) (by rw [List.getElem?_map, List.getElem?_eq_getElem h]; rfl)
  exact ⟨t, _, h1, List.getElem?_eq_getElem h, h2⟩
theorem way_len {b : Nat} {os : List (List Nat)} (N : Net b os) (B : Ban b os) {p : Nat × Nat} (hp : p ∈ allPairs (2 ^ b)) : (way os p).length = b := by
  obtain ⟨h1, h2⟩ := mem_allPairs.mp hp
  have hs := half_lt N.lo h1
  exact (fwd_ok N hs).len _ (way_mem B hs h2).1
section
variable {P : Program} {w : World} {K : PySem.W.Frag} {mg : Str → Option Value} {base : Heap}
def spFirst : Sp := fun vs H Q _ => ∃ (v u : V) (b : Nat) (os ps : List (List Nat)), vs = [v, u] ∧ NetAt H v b os ∧ NetAt H u b ps ∧ Net b os ∧ Net b ps ∧ Ban b os ∧ Ban b ps ∧ ∀ H' x, Same H H' → PartV H' x (parting (2 ^ b) (way os) (way ps)) → Q x H'
theorem ok_first_parting {f : Addr} {fd : FuncData} (T : Glob mg) (D : DefAt K mg "first_parting" sfirst_parting ["net", "other"] f fd) (Rways_table : Ready P w K mg base 2 "ways_table" ["net"] spTab)
    (Ris_apart : Ready P w K mg base 1 "is_apart" ["way", "others"] spApart) : Ready P w K mg base 3 "first_parting" ["net", "other"] spFirst := by
  refine D.ready (D.fn.ok scfirst_parting (fun vs H Q E h => ?_) fun cdv A outer s H vs Q E hr h => ?_)
  · obtain ⟨_, _, _, _, _, rfl, _⟩ := h
    rfl
  obtain ⟨v, u, b, os, ps, rfl, n, m, N, M, B, C, q⟩ := h
  have nd := scfirst_parting.nd
  have hu := hu_of hr
  have hrways_table := hr
  have hris_apart := hr.mono (by decide : 1 ≤ 2)
  have n4 := N.hi
  have n16 := pow_le16 n4
  have L256 : (allPairs (2 ^ b)).length ≤ 256 := by
    rw [allPairs_len]
    exact Nat.mul_le_mul n16 n16
  refine ⟨_, pss_cons (ps_par (i := 2) (j := 3) rfl nd rfl rfl (by decide) rfl rfl (pa_cons (pe_rd Rways_table hrways_table rfl (pa_cons (pv 0) pa_nil)) (pa_cons (pe_rd Rways_table hrways_table rfl (pa_cons (pv 1) pa_nil)) pa_nil)) (by rfl))
      (pss_cons (ps_set (i := 4) nd rfl (Or.inl rfl) (pe_callB cr_sortedPO (by rfl) T.sorted (by decide +kernel) (pa_cons (pe_callTy (call_list_dT rfl) (by rfl) T.list (by decide +kernel) (pa_cons (pv 2) pa_nil)) pa_nil)))
      (pss_cons (ps_for PassesOwn.never rfl (pi_enum (by rfl) T.enumerate (pa_cons (pv 4) pa_nil)) (pg_tup rfl (pgs_cons (pg_name (i := 5) nd rfl (Or.inl rfl)) (pgs_cons (pg_name (i := 6) nd rfl (Or.inr rfl)) pgs_nil)))
      (pss_one (ps_for PassesOwn.never rfl (pi_list (pe_lc (own := [("some", 8)]) rfl nd (pi_list (pe_slice sl_list (pv 4) (po_some (pe_op op_add (pv 5) pe_int)) po_none)) (blkOk_by (own := [("some", 8)]) (N := Nfirst_parting) (sc := (defScope sfirst_parting)) (by decide +kernel)) (fun _ _ _ _ _ => (pg_name (i := 8) nd rfl (Or.inl rfl))) (fun _ _ _ _ _ => (pts_one (PW.pt (pw_and (pt_cmp (pc_gt (pe_ix (r := rIxT K) ix_tup (pv 8) pe_int (fun _ _ => rfl)) (pe_ix (r := rIxT K) ix_tup (pv 6) pe_int (fun _ _ => rfl)))) (pw_and1 (pt_cmp (pc_neI (pe_ix (r := rIxT K) ix_tup (pv 8) pe_int (fun _ _ => rfl)) (pe_ix (r := rIxT K) ix_tup (pv 6) pe_int (fun _ _ => rfl))))))))) (fun _ _ _ _ _ => (pv 8)))) (pg_name (i := 7) nd rfl (Or.inl rfl))
        (pss_one (ps_if (pt_cmpR op_ne (pe_rd Ris_apart hris_apart rfl (pa_cons (pe_dget hu (pv 2) (pv 6) (fun _ _ => rfl)) (pa_cons (pe_lst (pa_cons (pe_dget hu (pv 2) (pv 7) (fun _ _ => rfl)) pa_nil)) pa_nil))) (pe_rd Ris_apart hris_apart rfl (pa_cons (pe_dget hu (pv 3) (pv 6) (fun _ _ => rfl)) (pa_cons (pe_lst (pa_cons (pe_dget hu (pv 3) (pv 7) (fun _ _ => rfl)) pa_nil)) pa_nil))) (nomark _))
          (pss_one (ps_ret (pe_tup (pa_cons (pv 6) (pa_cons (pv 7) pa_nil)))))
          (pss_nil))))))
      (pss_one (ps_ret pe_non)))), ?_⟩
  refine ⟨_, rfl, v, b, os, rfl, n, N, B, fun H1 t1 s1 T1 => ?_⟩
  refine ⟨_, rfl, u, b, ps, rfl, m.same s1, M, C, fun H2 t2 s2 T2 => ⟨_, _, rfl, ?_⟩⟩
  have T1' := T1.same s2
  have s12 := s1.trans s2
  obtain ⟨kvs, kv1, kv2⟩ := sort_tab (K := K) T1'
  refine ⟨_, rfl, t1, kvs, rfl, kv1, fun pb bs hpb hbs => ?_⟩
  obtain ⟨kv3, kv4, kv5⟩ := kv2 pb bs hpb hbs
  refine ⟨pb, _, _, rfl, kv3, kv4, fun ys c3 hys1 hys2 hc3' => ?_⟩
  obtain ⟨s3, hc3, hr3⟩ := kv5 ys c3 hys1 hys2 hc3'
  generalize upd (upd H2 pb (.lst (bs.map V.ref))) c3 (.lst ys) = H3 at s3 hc3 hr3 ⊢
  have T13 := T1'.same s3
  have T23 := T2.same s3
  have s13 := s12.trans s3
  have ly : ys.length = (allPairs (2 ^ b)).length := by
    rw [hr3.1, List.length_map]
  refine ⟨_, rfl, c3, _, rfl, SqL.of hc3, for_it walk_enum (fun i σ H' => Same H3 H' ∧ (((allPairs (2 ^ b)).take i).findSome? fun p => (((allPairs (2 ^ b)).filter (beyond p)).find? (partsAt (way os) (way ps) p)).map fun q => (p, q)) = none ∧ ∃ y5 y6 y7 y8, σ = [some v, some u, some (.ref t1), some (.ref t2), some (.ref c3), y5, y6, y7, y8])
    ⟨Same.refl _, by simp, none, none, none, none, rfl⟩ (fun i σ H' _ p => SqL.of (p.1 _ _ hc3)) (fun i y σ H4 H5 hi p y1 => ?_) (fun σ H' p => ?_)⟩
  · obtain ⟨s4, hno, y5, y6, y7, y8, rfl⟩ := p
    obtain ⟨Tp, x1, x2, rfl, hT, rfl, e3, e4⟩ := y1
    have e3' : vN i = x1 := Option.some.inj e3
    subst e3'
    obtain ⟨tp, p, g1, g2, g3⟩ := (hr3.same s4).getP (i := i) (by omega)
    have e4' : V.ref tp = x2 := Option.some.inj (g1.symm.trans e4)
    subst e4'
    have pm := List.mem_of_getElem? g2
    have s5 : Same H3 (upd H4 Tp (.tup [vN i, V.ref tp])) := sm_then s4 hT
    have g5 : (upd H4 Tp (.tup [vN i, V.ref tp])) tp = some (.tup ((pl p).map vN)) := by
      rw [upd_ne (ne_of_none g3 hT)]
      exact g3
    refine ⟨Tp, _, rfl, SqT.of upd_same, rfl, _, _, rfl, _, _, rfl, rfl, ?_⟩
    refine ⟨_, rfl, _, rfl, _, _, rfl, rfl, _, rfl, c3, ys, rfl, SqL.of (s5 _ _ hc3), fun p6 hp6 => ?_⟩
    have lyd : (ys.drop (i + 1)).length = ((allPairs (2 ^ b)).drop (i + 1)).length := by
      rw [List.length_drop, List.length_drop, ly]
    have e6 : cutV ys (some ((i : Int) + 1)) none = ys.drop (i + 1) := cutV_from ys (i + 1)
    rw [e6]
    have s6 : Same H3 (upd (upd H4 Tp (.tup [vN i, V.ref tp])) p6 (.lst (ys.drop (i + 1)))) := sm_then s5 hp6
    have g6 : (upd (upd H4 Tp (.tup [vN i, V.ref tp])) p6 (.lst (ys.drop (i + 1)))) tp = some (.tup ((pl p).map vN)) := by
      rw [upd_ne (ne_of_none g5 hp6)]
      exact g5
    have r6 : RowsAt (upd (upd H4 Tp (.tup [vN i, V.ref tp])) p6 (.lst (ys.drop (i + 1)))) (ys.drop (i + 1)) (((allPairs (2 ^ b)).drop (i + 1)).map pl) := by
      rw [List.map_drop]
      exact (hr3.same s6).drop (i + 1)
    refine ⟨p6, rfl, ⟨_, SqL.of upd_same⟩, fun Dl hD => lc_it (walk_list (xs := ys.drop (i + 1))) (fun k H' => Same (upd (upd H4 Tp (.tup [vN i, V.ref tp])) p6 (.lst (ys.drop (i + 1)))) H' ∧ ∃ us, H' Dl = some (.lst us) ∧ RowsAt H' us (((((allPairs (2 ^ b)).drop (i + 1)).take k).filter (beyond p)).map pl))
      ⟨sm_new hD, [], upd_same, RowsAt.nil _⟩ (fun k H' _ p => SqL.of (p.1 _ _ upd_same)) (fun k y H7 H8 hk p7 y1 => ?_) (fun H' p7 => ?_)⟩
    · obtain ⟨s7, us, hd, hus⟩ := p7
      obtain ⟨rfl, hy⟩ := y1
      obtain ⟨tq, q', g1', g2', g3'⟩ := (r6.same s7).getP (i := k) (by omega)
      have ey : V.ref tq = y := Option.some.inj (g1'.symm.trans hy)
      subst ey
      have g67 := s7 _ _ g6
      have et : (((allPairs (2 ^ b)).drop (i + 1)).take (k + 1)).filter (beyond p) = (((allPairs (2 ^ b)).drop (i + 1)).take k).filter (beyond p) ++ if beyond p q' = true then [q'] else [] := by
        rw [List.take_add_one, g2', List.filter_append]
        show _ ++ List.filter (beyond p) [q'] = _
        rw [List.filter_cons]
        split <;> rfl
      refine ⟨rfl, ?_⟩
      refine ⟨_, rfl, tq, _, 0, _, rfl, rfl, SqT.of g3', atI_nat (j := 0) rfl, _, rfl, tp, _, 0, _, rfl, rfl, SqT.of g67, atI_nat (j := 0) rfl, _, _, rfl, rfl, _, rfl, iteD (fun h1 => ?_) (fun h1 => ?_)⟩
      · refine ⟨_, rfl, tq, _, 1, _, rfl, rfl, SqT.of g3', atI_nat (j := 1) rfl, _, rfl, tp, _, 1, _, rfl, rfl, SqT.of g67, atI_nat (j := 1) rfl, _, _, rfl, rfl, _, rfl, iteN (fun h2 => ?_) (fun h2 => ?_)⟩
        · have eb : beyond p q' = true := by
            unfold beyond
            rw [Bool.and_eq_true, decide_eq_true_iff, decide_eq_true_iff]
            exact ⟨by omega, by omega⟩
          refine ⟨_, rfl, us, hd, ?_, sm_over s7 hD, _, upd_same, ?_⟩
          · rw [hus.1, List.length_map]
            refine small_lt (Nat.le_trans (List.length_filter_le _ _) (Nat.le_trans (List.length_take_le' _ _) ?_))
            rw [List.length_drop]
            omega
          · rw [et, if_pos eb, List.map_append]
            refine (hus.mono fun z l e => ?_).snoc (p := tq) (l := pl q') ?_
            · rw [upd_ne fun e5 => ?_]
              · exact e
              · rw [e5, hd] at e
                cases e
            · rw [upd_ne fun e5 => ?_]
              · exact g3'
              · rw [e5, hd] at g3'
                cases g3'
        · have eb : ¬ beyond p q' = true := by
            unfold beyond
            rw [Bool.and_eq_true, decide_eq_true_iff, decide_eq_true_iff]
            omega
          refine ⟨s7, us, hd, ?_⟩
          rw [et, if_neg eb, List.append_nil]
          exact hus
      · have eb : ¬ beyond p q' = true := by
          unfold beyond
          rw [Bool.and_eq_true, decide_eq_true_iff, decide_eq_true_iff]
          omega
        refine iteF ⟨s7, us, hd, ?_⟩
        rw [et, if_neg eb, List.append_nil]
        exact hus
    · obtain ⟨s7, us, hd, hus⟩ := p7
      rw [lyd, List.take_length, beyond_drop g2] at hus
      have s67 := s6.trans s7
      have lu : us.length = ((allPairs (2 ^ b)).filter (beyond p)).length := by rw [hus.1, List.length_map]
      have g67 := s7 _ _ g6
      refine ⟨Dl, rfl, ⟨_, SqL.of hd⟩, for_it (walk_list (xs := us)) (fun j σ H9 => Same H' H9 ∧ (((allPairs (2 ^ b)).filter (beyond p)).take j).find? (partsAt (way os) (way ps) p) = none ∧ ∃ y7 y8, σ = [some v, some u, some (.ref t1), some (.ref t2), some (.ref c3), some (vN i), some (.ref tp), y7, y8])
        ⟨Same.refl _, rfl, y7, y8, rfl⟩ (fun j σ H9 _ p => SqL.of (p.1 _ _ hd)) (fun j y σ H9 H10 hj p9 y1 => ?_) (fun σ H9 p9 => ?_)⟩
      · obtain ⟨s9, hno9, y7, y8, rfl⟩ := p9
        obtain ⟨rfl, hy⟩ := y1
        obtain ⟨tq, q', g1', g2', g3'⟩ := (hus.same s9).getP (i := j) (by omega)
        have ey : V.ref tq = y := Option.some.inj (g1'.symm.trans hy)
        subst ey
        have qm := (List.mem_filter.mp (List.mem_of_getElem? g2')).1
        have s10 := s67.trans s9
        have g10 := s9 _ _ g67
        obtain ⟨x1, d1, w1⟩ := ((T13.same s10)).get pm g10
        obtain ⟨x2, d2, w2⟩ := ((T13.same s10)).get qm g3'
        refine ⟨_, rfl, _, rfl, t1, _, rfl, d1, _, rfl, _, rfl, t1, _, rfl, d2, (by decide : 1 ≤ sizeLine), fun l1 hl1 => ?_⟩
        have k1 := sm_new (o := .lst [V.ref x2]) hl1
        refine ⟨x1, l1, way os p, [V.ref x2], [way os q'], rfl, k1 _ _ w1, upd_same, RowsAt.one (k1 _ _ w2), fun o ho => ?_, by rw [way_len N B pm]; exact n4, (by decide : 1 ≤ 100), fun H11 s11 => ?_⟩
        · rw [List.mem_singleton.mp ho, way_len N B pm, way_len N B qm]
        have s12' := k1.trans s11
        obtain ⟨x3, d3, w3⟩ := ((T23.same s10).same s12').get pm (s12' _ _ g10)
        obtain ⟨x4, d4, w4⟩ := ((T23.same s10).same s12').get qm (s12' _ _ g3')
        refine ⟨_, rfl, _, rfl, t2, _, rfl, d3, _, rfl, _, rfl, t2, _, rfl, d4, (by decide : 1 ≤ sizeLine), fun l2 hl2 => ?_⟩
        have k2 := sm_new (o := .lst [V.ref x4]) hl2
        refine ⟨x3, l2, way ps p, [V.ref x4], [way ps q'], rfl, k2 _ _ w3, upd_same, RowsAt.one (k2 _ _ w4), fun o ho => ?_, by rw [way_len M C pm]; exact n4, (by decide : 1 ≤ 100), fun H13 s13' => ?_⟩
        · rw [List.mem_singleton.mp ho, way_len M C pm, way_len M C qm]
        have s14 := s12'.trans (k2.trans s13')
        have epart : (!decide (V.bl (apart (way os p) [way os q']) = V.bl (apart (way ps p) [way ps q']))) = partsAt (way os) (way ps) p q' := by
          rw [apart_meet, apart_meet]
          unfold partsAt
          cases meet (way os p) (way os q') <;> cases meet (way ps p) (way ps q') <;> rfl
        refine ⟨rfl, partsAt (way os) (way ps) p q', congrArg V.bl epart, ?_⟩
        cases hpa : partsAt (way os) (way ps) p q' with
        | true =>
          refine iteT ?_
          refine ⟨_, rfl, _, rfl, (by decide : 2 ≤ sizeLine), fun a ha => q _ _ (sm_then ((s13.trans s10).trans s14) ha) ?_⟩
          have hp := some_hit hno g2 (by rw [find_hit hno9 g2' hpa]; rfl)
          rw [parting_eq, hp]
          have k5 := sm_new (o := .tup [V.ref tp, V.ref tq]) ha
          exact ⟨a, tp, tq, rfl, upd_same, k5 _ _ (s14 _ _ g10), k5 _ _ (s14 _ _ g3')⟩
        | false =>
          refine iteF ⟨s9.trans s14, find_miss hno9 g2' hpa, _, _, rfl⟩
      · obtain ⟨s9, hno9, y7, y8, rfl⟩ := p9
        rw [lu, List.take_length] at hno9
        exact ⟨s67.trans s9, some_miss hno g2 (by rw [hno9]; rfl), _, _, _, _, rfl⟩
  · obtain ⟨s4, hno, y5, y6, y7, y8, rfl⟩ := p
    rw [ly, List.take_length] at hno
    refine q _ _ (s13.trans s4) ?_
    rw [parting_eq, hno]
    rfl
/-! ### parting_demands, do_pass_alike -/
def spParting : Sp := fun vs H Q _ => ∃ (v u : V) (b : Nat) (os ps : List (List Nat)), vs = [v, u] ∧ NetAt H v b os ∧ NetAt H u b ps ∧ Net b os ∧ Net b ps ∧ Ban b os ∧ Ban b ps ∧ ∀ H' x, Same H H' → PartV H' x (parting (2 ^ b) (way os) (way ps)) → Q x H'
def spAlike : Sp := fun vs H Q _ => ∃ (v u : V) (b : Nat) (os ps : List (List Nat)), vs = [v, u] ∧ NetAt H v b os ∧ NetAt H u b ps ∧ Net b os ∧ Net b ps ∧ Ban b os ∧ Ban b ps ∧ ∀ H', Same H H' → Q (.bl (parting (2 ^ b) (way os) (way ps)).isNone) H'
theorem ok_parting_demands {f : Addr} {fd : FuncData} (D : DefAt K mg "parting_demands" sparting_demands ["net", "other"] f fd) (Rneed_pair : Ready P w K mg base 5 "need_pair" ["net", "other"] spPair)
    (Rfirst_parting : Ready P w K mg base 3 "first_parting" ["net", "other"] spFirst) : Ready P w K mg base 6 "parting_demands" ["net", "other"] spParting := by
  refine D.ready (D.fn.ok scparting_demands (fun vs H Q E h => ?_) fun cdv A outer s H vs Q E hr h => ?_)
  · obtain ⟨_, _, _, _, _, rfl, _⟩ := h
    rfl
  obtain ⟨v, u, b, os, ps, rfl, n, m, N, M, B, C, q⟩ := h
  have hrneed_pair := hr
  have hrfirst_parting := hr.mono (by decide : 3 ≤ 5)
  refine ⟨_, pss_cons (ps_expr (pe_rd Rneed_pair hrneed_pair rfl (pa_cons (pv 0) (pa_cons (pv 1) pa_nil))))
      (pss_one (ps_ret (pe_rd Rfirst_parting hrfirst_parting rfl (pa_cons (pv 0) (pa_cons (pv 1) pa_nil))))), ?_⟩
  refine ⟨_, rfl, _, rfl, v, u, b, os, ps, rfl, n, m, N, M, B, C, fun H1 s1 => ?_⟩
  exact ⟨_, rfl, _, rfl, v, u, b, os, ps, rfl, n.same s1, m.same s1, N, M, B, C, fun H2 x s2 h => q _ _ (s1.trans s2) h⟩
theorem ok_do_pass_alike {f : Addr} {fd : FuncData} (D : DefAt K mg "do_pass_alike" sdo_pass_alike ["net", "other"] f fd) (Rneed_pair : Ready P w K mg base 5 "need_pair" ["net", "other"] spPair)
    (Rfirst_parting : Ready P w K mg base 3 "first_parting" ["net", "other"] spFirst) : Ready P w K mg base 6 "do_pass_alike" ["net", "other"] spAlike := by
  refine D.ready (D.fn.ok scdo_pass_alike (fun vs H Q E h => ?_) fun cdv A outer s H vs Q E hr h => ?_)
  · obtain ⟨_, _, _, _, _, rfl, _⟩ := h
    rfl
  obtain ⟨v, u, b, os, ps, rfl, n, m, N, M, B, C, q⟩ := h
  have hrneed_pair := hr
  have hrfirst_parting := hr.mono (by decide : 3 ≤ 5)
  refine ⟨_, pss_cons (ps_expr (pe_rd Rneed_pair hrneed_pair rfl (pa_cons (pv 0) (pa_cons (pv 1) pa_nil))))
      (pss_one (ps_ret (pe_cmp (pc_isN (pe_rd Rfirst_parting hrfirst_parting rfl (pa_cons (pv 0) (pa_cons (pv 1) pa_nil)))) rfl))), ?_⟩
  refine ⟨_, rfl, _, rfl, v, u, b, os, ps, rfl, n, m, N, M, B, C, fun H1 s1 => ?_⟩
  refine ⟨_, rfl, _, rfl, v, u, b, os, ps, rfl, n.same s1, m.same s1, N, M, B, C, fun H2 x s2 h => ?_⟩
  have q2 := q _ (s1.trans s2)
  cases e : parting (2 ^ b) (way os) (way ps) with
  | none =>
    rw [e] at h q2
    have hx : x = .non := h
    subst hx
    exact q2
  | some r =>
    rw [e] at h q2
    obtain ⟨a, c, d, hx, _⟩ := h
    subst hx
    exact q2
end
end K90
namespace K90
open PySem PySem.Spec PyProof.Rows L2
theorem walk_zipT {K : PySem.W.Frag} {a b : Addr} {xs ys : List V} {n : Nat} (hn : n = min xs.length ys.length) : Walk (RZ.ItzT K a b) n (fun H => SqT K H a xs ∧ SqT K H b ys) (YPair (fun i => xs[i]?) (fun i => ys[i]?)) := by
  subst hn
  refine ⟨fun i _ hi q => ?_, fun _ q => ⟨xs, ys, q.1, q.2, by omega⟩, fun i H v H' _ q y => ?_⟩
  · have h1 : i < xs.length := by omega
    have h2 : i < ys.length := by omega
    exact ⟨xs, ys, xs[i], ys[i], q.1, q.2, by simp [h1], by simp [h2]⟩
  · obtain ⟨T, x, z, h1, h2, h3, h4, h5⟩ := y
    exact ⟨T, x, z, h1, h2, h3, h4 xs q.1, h5 ys q.2⟩
def sc1_law_apart : Scope := match s_law_apart with
  | .FunctionDef _ _ [.Return (some (.Compare (.ListComp _ _ sc _) _ _ _)) _] _ _ _ _ _ _ _ => sc
  | s => defScope s
theorem nxt_two (o : List Nat) (x : Nat) : nxt o x = [2 * (ng o x / 2), 2 * (ng o x / 2) + 1] := by
  unfold nxt
  rw [sub_mod]
theorem sqT_inj {K : PySem.W.Frag} {H : Hp} {t : Addr} {xs : List V} (h : H t = some (.tup xs)) : SqT K H t xs := SqT.of h
section
variable {P : Program} {w : World} {K : PySem.W.Frag} {mg : Str → Option Value} {base : Heap}
/-! ### _law_ways -/
def spWays : Sp := fun vs H Q _ => ∃ (v : V) (b : Nat) (os : List (List Nat)) (x : Nat), vs = [v, vN x] ∧ NetAt H v b os ∧ Net b os ∧ x < 2 ^ b ∧
  ∀ H' p us ls, Same H H' → H' p = some (.lst us) → RowsAt H' us ls → ls.Perm (fwd os (x / 2)) → Q (.ref p) H'
/-- a rearrangement of rows -/
theorem RowsAt.perm {H : Hp} {vs us : List V} {ls : List (List Nat)} (r : RowsAt H vs ls) (h : us.Perm vs) : ∃ ks, RowsAt H us ks ∧ ks.Perm ls := by
  induction h generalizing ls with
  | nil => exact ⟨ls, r, List.Perm.refl _⟩
  | @cons x l1 l2 hp ih =>
    cases ls with
    | nil => exact absurd r.1 (by simp)
    | cons k ls =>
      have r2 : RowsAt H l2 ls := r.drop 1
      obtain ⟨ks, h1, h2⟩ := ih r2
      refine ⟨k :: ks, ?_, h2.cons k⟩
      obtain ⟨p, e1, e2⟩ := r.2 0 k rfl
      have ex : x = V.ref p := Option.some.inj e1
      subst ex
      exact (RowsAt.one e2).app h1
  | @swap x y l =>
    match ls, r with
    | [], r => exact absurd r.1 (by simp)
    | [_], r => exact absurd r.1 (by simp)
    | k1 :: k2 :: ls, r =>
      refine ⟨k2 :: k1 :: ls, ?_, List.Perm.swap ..⟩
      obtain ⟨p, e1, e2⟩ := r.2 0 k1 rfl
      obtain ⟨p', e3, e4⟩ := r.2 1 k2 rfl
      have ex : x = V.ref p := Option.some.inj e1
      have ey : y = V.ref p' := Option.some.inj e3
      subst ex ey
      exact ((RowsAt.one e4).app (RowsAt.one e2)).app (r.drop 2)
  | trans h1 h2 i1 i2 =>
    obtain ⟨ks, a1, a2⟩ := i2 r
    obtain ⟨js, b1, b2⟩ := i1 a1
    exact ⟨js, b1, b2.trans a2⟩
theorem RowsAt.mem {H : Hp} {vs : List V} {ls : List (List Nat)} (r : RowsAt H vs ls) {x : V} (hx : x ∈ vs) : ∃ l ∈ ls, ∃ t, x = V.ref t ∧ H t = some (.tup (l.map vN)) := by
  obtain ⟨i, hi, e⟩ := List.mem_iff_getElem.mp hx
  obtain ⟨p, l, h1, h2, h3⟩ := r.get (i := i) (by rw [← r.1]; exact hi)
  refine ⟨l, List.mem_of_getElem? h2, p, ?_, h3⟩
  rw [← e]
  exact Option.some.inj ((List.getElem?_eq_getElem hi).symm.trans h1)
theorem ok__law_ways {f : Addr} {fd : FuncData} (T : Glob mg) (D : DefAt K mg "_law_ways" s_law_ways ["_law_net", "_law_begin"] f fd) : Ready P w K mg base 1 "_law_ways" ["_law_net", "_law_begin"] spWays := by
  refine D.ready (D.fn.ok sc_law_ways (fun vs H Q E h => ?_) fun cdv A outer s H vs Q E hr h => ?_)
  · obtain ⟨_, _, _, _, rfl, _⟩ := h
    rfl
  obtain ⟨v, b, os, x, rfl, ⟨a, o, ws, rfl, ha, ho, hw⟩, N, hx, q⟩ := h
  have nd := sc_law_ways.nd
  have hdd : 1 ≤ b := N.lo
  have n4 := N.hi
  have n16 := pow_le16 n4
  have hs := half_lt N.lo hx
  have lenw : ws.length = os.length := hw.1
  have hrw := N.rows
  refine ⟨_, pss_cons (ps_set (i := 2) nd rfl (Or.inl rfl) (pe_op op_mul pe_int (pe_op op_fdiv (pv 1) pe_int)))
      (pss_cons (ps_set (i := 3) nd rfl (Or.inl rfl) (pe_lst (pa_cons (pe_tup (pa_cons (pv 2) pa_nil)) (pa_cons (pe_tup (pa_cons (pe_op op_add (pv 2) pe_int) pa_nil)) pa_nil))))
      (pss_cons (ps_for PassesOwn.never rfl (pi_tup (pe_ix ix_tup (pv 0) pe_int (fun _ _ => rfl))) (pg_name (i := 4) nd rfl (Or.inl rfl))
      (pss_cons (ps_set (i := 5) nd rfl (Or.inl rfl) (pe_lst pa_nil))
        (pss_cons (ps_for PassesOwn.never rfl (pi_list (pv 3)) (pg_name (i := 6) nd rfl (Or.inl rfl))
        (pss_cons (ps_set (i := 7) nd rfl (Or.inl rfl) (pe_op op_mul pe_int (pe_op op_fdiv (pe_ix ix_tup (pv 4) (pe_ix ix_tup (pv 6) (pe_un un_neg pe_int) (fun _ _ => rfl)) (fun _ _ => rfl)) pe_int)))
          (pss_one (ps_set (i := 5) nd rfl (Or.inl rfl) (pe_op op_cat (pv 5) (pe_lst (pa_cons (pe_op op_catA (pv 6) (pe_tup (pa_cons (pv 7) pa_nil))) (pa_cons (pe_op op_catA (pv 6) (pe_tup (pa_cons (pe_op op_add (pv 7) pe_int) pa_nil))) pa_nil))))))))
        (pss_one (ps_set (i := 3) nd rfl (Or.inl rfl) (pv 5))))))
      (pss_one (ps_ret (pe_callB (cr_sortT (d := b) (B := 16) hdd) (by rfl) T.sorted (by decide +kernel) (pa_cons (pv 3) pa_nil)))))), ?_⟩
  have c1 : CDiv ((x : Nat) : Int) 2 := by constructor <;> decide
  have m1 : CMul 2 (((x : Nat) : Int) / 2) := .inl ⟨by decide, by decide⟩
  have ex2 : (2 : Int) * (((x : Nat) : Int) / 2) = ((2 * (x / 2) : Nat) : Int) := by omega
  refine ⟨_, rfl, _, _, rfl, rfl, c1, _, _, rfl, rfl, m1, ?_⟩
  show gName 2 (V.int (2 * (((x : Nat) : Int) / 2))) _ _ _
  rw [ex2]
  refine ⟨_, rfl, (by decide : 1 ≤ sizeLine), fun p1 hp1 => ⟨_, rfl, _, _, rfl, rfl, (by decide : 1 ≤ sizeLine), fun p2 hp2 => ⟨(by decide : 2 ≤ sizeLine), fun c hc => ?_⟩⟩⟩
  have n12 : p1 ≠ p2 := fun e => by
    rw [← e, upd_same] at hp2
    cases hp2
  have k1 : Same H (upd (upd H p1 (.tup [vN (2 * (x / 2))])) p2 (.tup [V.int (((2 * (x / 2) : Nat) : Int) + 1)])) := sm_then (sm_new hp1) hp2
  have k2 := sm_then (o := .lst [V.ref p1, V.ref p2]) k1 hc
  have r0 : RowsAt (upd (upd (upd H p1 (.tup [vN (2 * (x / 2))])) p2 (.tup [V.int (((2 * (x / 2) : Nat) : Int) + 1)])) c (.lst [V.ref p1, V.ref p2])) [V.ref p1, V.ref p2] (fwdAt os (x / 2) 0) := by
    have q1 : (upd (upd (upd H p1 (.tup [vN (2 * (x / 2))])) p2 (.tup [V.int (((2 * (x / 2) : Nat) : Int) + 1)])) c (.lst [V.ref p1, V.ref p2])) p1 = some (.tup ([2 * (x / 2)].map vN)) := by
      have z : p1 ≠ c := ne_of_none (o := .tup [vN (2 * (x / 2))]) (by rw [upd_ne n12, upd_same]) hc
      rw [upd_ne z, upd_ne n12, upd_same]
      rfl
    have q2 : (upd (upd (upd H p1 (.tup [vN (2 * (x / 2))])) p2 (.tup [V.int (((2 * (x / 2) : Nat) : Int) + 1)])) c (.lst [V.ref p1, V.ref p2])) p2 = some (.tup ([2 * (x / 2) + 1].map vN)) := by
      have z : p2 ≠ c := ne_of_none (o := .tup [V.int (((2 * (x / 2) : Nat) : Int) + 1)]) (by rw [upd_same]) hc
      rw [upd_ne z, upd_same]
      rfl
    exact (RowsAt.one q1).app (RowsAt.one q2)
  refine ⟨_, rfl, a, _, 1, _, rfl, rfl, SqT.of (k2 _ _ ha), atI_nat (j := 1) rfl, o, rfl, ⟨ws, SqT.of (k2 _ _ ho)⟩, ?_⟩
  refine for_it (walk_tup (xs := ws)) (fun r σ H' => Same H H' ∧ ∃ c vs y4 y5 y6 y7, σ = [some (.ref a), some (vN x), some (vN (2 * (x / 2))), some (.ref c), y4, y5, y6, y7] ∧ H' c = some (.lst vs) ∧ RowsAt H' vs (fwdAt os (x / 2) r))
    ⟨k2, c, _, none, none, none, none, rfl, upd_same, r0⟩ (fun r σ H' _ p => SqT.of (p.1 _ _ ho)) (fun r y σ H2 H3 hr1 p y1 => ?_) (fun σ H' p => ?_)
  · obtain ⟨k3, c, vs, y4, y5, y6, y7, rfl, hc3, hr3⟩ := p
    obtain ⟨rfl, hy⟩ := y1
    obtain ⟨po, l, g1, g2, g3⟩ := hw.get (i := r) (by omega)
    have ey : V.ref po = y := Option.some.inj (g1.symm.trans hy)
    subst ey
    have oL := N.ord l (List.mem_of_getElem? g2)
    have lv : vs.length = (fwdAt os (x / 2) r).length := hr3.1
    have l16 := fwdAt_le N (x / 2) r (by omega)
    have okr := fwdAt_ok N hs r (by omega)
    refine ⟨(by decide : 0 ≤ sizeLine), fun d hd => ?_⟩
    have ndc : c ≠ d := ne_of_none hc3 hd
    refine ⟨_, rfl, c, rfl, ⟨vs, SqL.of (by rw [upd_ne ndc]; exact hc3)⟩, for_it (walk_list (xs := vs)) (fun j σ H' => Same H3 H' ∧ ∃ d us y6 y7, σ = [some (.ref a), some (vN x), some (vN (2 * (x / 2))), some (.ref c), some (.ref po), some (.ref d), y6, y7] ∧ H' d = some (.lst us) ∧ RowsAt H' us (ext l ((fwdAt os (x / 2) r).take j)))
      ⟨sm_new hd, d, [], y6, y7, rfl, upd_same, RowsAt.nil _⟩ (fun j σ H' _ p => SqL.of (p.1 _ _ hc3)) (fun j y σ H4 H5 hj p y1 => ?_) (fun σ H' p => ?_)⟩
    · obtain ⟨k4, d, us, y6, y7, rfl, hd4, hr4⟩ := p
      obtain ⟨rfl, hy⟩ := y1
      obtain ⟨pw, wy, e1, e2, e3⟩ := (hr3.same k4).get (i := j) (by omega)
      have ex : V.ref pw = y := Option.some.inj (e1.symm.trans hy)
      subst ex
      have mw := List.mem_of_getElem? e2
      have ll := okr.len wy mw
      have ne : wy ≠ [] := fun e => by
        rw [e] at ll
        simp at ll
        omega
      have lt := okr.lt wy mw _ (lst_mem ne)
      have go := (k3.trans k4) _ _ g3
      have c2 : CDiv ((ng l (lst wy) : Nat) : Int) 2 := by constructor <;> decide
      have m2 : CMul 2 (((ng l (lst wy) : Nat) : Int) / 2) := .inl ⟨by decide, by decide⟩
      have ex3 : (2 : Int) * (((ng l (lst wy) : Nat) : Int) / 2) = ((2 * (ng l (lst wy) / 2) : Nat) : Int) := by omega
      refine ⟨_, rfl, _, rfl, _, rfl, pw, _, _, _, rfl, rfl, SqT.of e3, at_neg ne, po, _, _, _, rfl, rfl, SqT.of go, at_map (by rw [oL.len]; exact lt), _, _, rfl, rfl, c2, _, _, rfl, rfl, m2, ?_⟩
      show gName 7 (V.int (2 * (((ng l (lst wy) : Nat) : Int) / 2))) _ _ _
      rw [ex3]
      refine ⟨_, rfl, _, rfl, _, rfl, (by decide : 1 ≤ sizeLine), fun p1 hp1 => ?_⟩
      have t1 := sm_new (o := .tup [vN (2 * (ng l (lst wy) / 2))]) hp1
      have mne : wy.map vN ≠ [] := fun e => ne (List.map_eq_nil_iff.mp e)
      refine ⟨pw, p1, wy.map vN, [vN (2 * (ng l (lst wy) / 2))], rfl, rfl, SqT.of (t1 _ _ e3), SqT.of upd_same, small_of (by simp; omega), fun e => absurd e mne, fun _ e => absurd e (List.cons_ne_nil _ _), fun _ _ p2 hp2 => ?_⟩
      have t2 := sm_new (o := .tup (wy.map vN ++ [vN (2 * (ng l (lst wy) / 2))])) hp2
      refine ⟨_, rfl, _, rfl, _, _, rfl, rfl, (by decide : 1 ≤ sizeLine), fun p3 hp3 => ?_⟩
      have t3 := sm_new (o := .tup [V.int (((2 * (ng l (lst wy) / 2) : Nat) : Int) + 1)]) hp3
      have t123 := (t1.trans t2).trans t3
      refine ⟨pw, p3, wy.map vN, [V.int (((2 * (ng l (lst wy) / 2) : Nat) : Int) + 1)], rfl, rfl, SqT.of (t123 _ _ e3), SqT.of upd_same, small_of (by simp; omega), fun e => absurd e mne, fun _ e => absurd e (List.cons_ne_nil _ _), fun _ _ p4 hp4 => ?_⟩
      have t4 := sm_new (o := .tup (wy.map vN ++ [V.int (((2 * (ng l (lst wy) / 2) : Nat) : Int) + 1)])) hp4
      refine ⟨(by decide : 2 ≤ sizeLine), fun p5 hp5 => ?_⟩
      have t5 := sm_new (o := .lst [V.ref p2, V.ref p4]) hp5
      have t15 := ((t123.trans t4).trans t5)
      have lus : us.length ≤ 32 := by
        rw [hr4.1, ext_len, List.length_take]
        omega
      refine ⟨d, p5, us, _, rfl, rfl, t15 _ _ hd4, upd_same, small_of (by simp; omega), fun p6 hp6 => ?_⟩
      have t6 := sm_new (o := .lst (us ++ [V.ref p2, V.ref p4])) hp6
      refine ⟨k4.trans (t15.trans t6), p6, _, _, _, rfl, upd_same, ?_⟩
      rw [ext_take e2, nxt_two]
      refine (hr4.same (t15.trans t6)).app ?_
      have z2 := ((t3.trans t4).trans (t5.trans t6)) p2 _ upd_same
      have z4 := (t5.trans t6) p4 _ upd_same
      refine (RowsAt.one (p := p2) (l := wy ++ [2 * (ng l (lst wy) / 2)]) ?_).app (RowsAt.one (p := p4) (l := wy ++ [2 * (ng l (lst wy) / 2) + 1]) ?_)
      · rw [z2, List.map_append]
        rfl
      · rw [z4, List.map_append]
        rfl
    · obtain ⟨k4, d, us, y6, y7, rfl, hd4, hr4⟩ := p
      refine ⟨_, rfl, k3.trans k4, d, us, _, _, _, _, rfl, hd4, ?_⟩
      rw [lv, List.take_length] at hr4
      rw [fwdAt_succ g2]
      exact hr4
  · obtain ⟨k3, c, vs, y4, y5, y6, y7, rfl, hc3, hr3⟩ := p
    rw [lenw, fwdAt_all] at hr3
    have l16 := ways_le N (x / 2)
    have ok := fwd_ok N hs
    refine ⟨_, rfl, c, vs, rfl, SqL.of hc3, by rw [hr3.1]; omega, fun y hy => ?_, fun ys p hp _ hpn => ?_⟩
    · obtain ⟨wy, m, t, rfl, ht⟩ := hr3.mem hy
      refine ⟨wy.map fun n : Nat => (n : Int), ⟨t, rfl, SqT.of (by rw [List.map_map]; exact ht)⟩, by rw [List.length_map]; exact ok.len wy m, fun z hz => ?_⟩
      obtain ⟨n, hn, rfl⟩ := List.mem_map.mp hz
      have := ok.lt wy m n hn
      omega
    · obtain ⟨ks, h1, h2⟩ := hr3.perm hp
      exact q _ p ys ks (sm_then k3 hpn) upd_same (h1.same (sm_new hpn)) h2
/-! ### _law_apart -/
def spApartL : Sp := fun vs H Q _ => ∃ (a l : Addr) (wy : List Nat) (ws : List V) (os : List (List Nat)), vs = [.ref a, .ref l] ∧ H a = some (.tup (wy.map vN)) ∧ H l = some (.lst ws) ∧ RowsAt H ws os ∧ (∀ o ∈ os, o.length = wy.length) ∧ wy.length ≤ 4 ∧ os.length ≤ 100 ∧
  ∀ H', Same H H' → Q (.bl (apart wy os)) H'
theorem ok__law_apart {f : Addr} {fd : FuncData} (T : Glob mg) (D : DefAt K mg "_law_apart" s_law_apart ["_law_way", "_law_others"] f fd) : Ready P w K mg base 1 "_law_apart" ["_law_way", "_law_others"] spApartL := by
  refine D.ready (D.fn.ok sc_law_apart (fun vs H Q E h => ?_) fun cdv A outer s H vs Q E hr h => ?_)
  · obtain ⟨_, _, _, _, _, rfl, _⟩ := h
    rfl
  obtain ⟨a, l, wy, ws, os, rfl, ha, hl, hw, hlen, w4, o100, q⟩ := h
  have nd := sc_law_apart.nd
  have lw : ws.length = os.length := hw.1
  refine ⟨_, pss_one (ps_ret (pe_cmpR (op_eqD hr.units) (pe_lc (own := [("_law_other", 2)]) rfl nd (pi_list (pv 1)) (blkOk_by (own := [("_law_other", 2)]) (N := N_law_apart) (sc := (defScope s_law_apart)) (by decide +kernel)) (fun _ _ _ _ _ => (pg_name (i := 2) nd rfl (Or.inl rfl))) (fun _ _ _ _ _ => (pts_one (pt_cmpR (r := rNeD K) (op_neD hr.units) (pe_lc (own := [("_law_one", 3), ("_law_two", 4)]) rfl nd (show PI _ _ _ (RZ.iZipA K _) from (RZ.pi_zipA (by rfl) T.zip (pa_cons (pv 0) (pa_cons (pv 2) pa_nil)))) (blkOk_by (own := [("_law_one", 3), ("_law_two", 4)]) (N := N_law_apart) (sc := (relS sc1_law_apart (defScope s_law_apart))) (by decide +kernel)) (fun _ _ _ _ _ => (show PG _ _ (gTup K 2 _) from pg_tup rfl (pgs_cons (pg_name (i := 3) nd rfl (Or.inl rfl)) (pgs_cons (pg_name (i := 4) nd rfl (Or.inl rfl)) pgs_nil)))) (fun _ _ _ _ _ => (pts_one (pt_cmp (pc_eqI (pv 3) (pv 4))))) (fun _ _ _ _ _ => pe_int)) (pe_lst pa_nil) (nomark _)))) (fun _ _ _ _ _ => pe_int)) (pe_lst pa_nil) (nomark _))), ?_⟩
  refine ⟨_, rfl, l, rfl, ⟨_, SqL.of hl⟩, fun Dl hD => lc_it (walk_list (xs := ws)) (fun i H' => Same H H' ∧ ∃ n, H' Dl = some (.lst ((List.replicate n (1 : Int)).map V.int)) ∧ n ≤ i ∧ (n = 0 ↔ (os.take i).any (meet wy) = false))
    ⟨sm_new hD, 0, upd_same, Nat.le_refl _, by simp⟩ (fun i H' _ p => SqL.of (p.1 _ _ hl)) (fun i x H1 H2 hi p y => ?_) (fun H' p => ?_)⟩
  · obtain ⟨sm, n, hd, hn, hiff⟩ := p
    obtain ⟨rfl, hx⟩ := y
    obtain ⟨p, o, g1, g2, g3⟩ := (hw.same sm).get (i := i) (by omega)
    have ex : V.ref p = x := Option.some.inj (g1.symm.trans hx)
    subst ex
    have lo := hlen o (List.mem_of_getElem? g2)
    have eo : os.take (i + 1) = os.take i ++ [o] := by rw [List.take_add_one, g2]; rfl
    refine ⟨rfl, ?_⟩
    refine ⟨_, rfl, _, rfl, a, p, _, _, rfl, .inr ⟨SqT.of (sm _ _ ha), SqT.of g3, fun D2 hD2 => lc_it (walk_zipT (xs := wy.map vN) (ys := o.map vN) rfl) (fun j H' => Same H2 H' ∧ ∃ m, H' D2 = some (.lst ((List.replicate m (1 : Int)).map V.int)) ∧ m ≤ j ∧ (m = 0 ↔ ((List.range j).any fun r => ng wy r == ng o r) = false))
      ⟨sm_new hD2, 0, upd_same, Nat.le_refl _, by simp⟩ (fun j H' _ p => ⟨SqT.of (p.1 _ _ (sm _ _ ha)), SqT.of (p.1 _ _ g3)⟩) (fun j x H1 H3 hj p y => ?_) (fun H' p => ?_)⟩⟩
    · obtain ⟨s1, m, hd1, hm, hiff1⟩ := p
      obtain ⟨Tp, x1, x2, rfl, hT, rfl, e3, e4⟩ := y
      rw [List.length_map, List.length_map, lo, Nat.min_self] at hj
      have e3' : vN (ng wy j) = x1 := by
        have z : (wy.map vN)[j]? = some x1 := e3
        rw [List.getElem?_map, ng_some hj] at z
        exact Option.some.inj z
      have e4' : vN (ng o j) = x2 := by
        have z : (o.map vN)[j]? = some x2 := e4
        rw [List.getElem?_map, ng_some (by rw [lo]; exact hj)] at z
        exact Option.some.inj z
      subst e3' e4'
      have s2 := sm_then (o := .tup [vN (ng wy j), vN (ng o j)]) s1 hT
      have ndT : D2 ≠ Tp := ne_of_none hd1 hT
      refine ⟨Tp, _, rfl, SqT.of upd_same, rfl, _, _, rfl, _, _, rfl, rfl, rfl, _, rfl, _, rfl, _, _, rfl, rfl, _, rfl, iteD (fun h => ?_) (fun h => ?_)⟩
      · refine ⟨(List.replicate m (1 : Int)).map V.int, by rw [upd_ne ndT]; exact hd1, small_lt (by rw [List.length_map, List.length_replicate]; omega), sm_over s2 hD2, m + 1, ?_, by omega, ?_⟩
        · rw [upd_same, List.replicate_succ', List.map_append]
          rfl
        · have e : (ng wy j == ng o j) = true := by
            rw [beq_iff_eq]
            omega
          rw [List.range_succ, List.any_append]
          simp [e]
      · refine ⟨s2, m, by rw [upd_ne ndT]; exact hd1, by omega, ?_⟩
        have e : (ng wy j == ng o j) = false := by
          rw [beq_eq_false_iff_ne]
          omega
        rw [List.range_succ, List.any_append, hiff1]
        simp [e]
    · obtain ⟨s1, m, hd1, hm, hiff1⟩ := p
      rw [List.length_map, List.length_map, lo, Nat.min_self] at hm hiff1
      refine ⟨(by decide : 0 ≤ sizeLine), fun e he => ?_⟩
      have s2 := sm_then (o := .lst []) s1 he
      refine rNeL (ns := List.replicate m 1) (ms := []) (SqL.of ((sm_new he) _ _ hd1)) (SqL.of upd_same) ?_
      have hd2 := s2 _ _ hd
      have sH := sm.trans s2
      refine ⟨_, rfl, iteN (fun h => ?_) (fun h => ?_)⟩
      · have hm0 : ¬ m = 0 := fun z => h (by rw [z]; rfl)
        have e : meet wy o = true := by
          unfold meet
          cases z : (List.range wy.length).any fun r => ng wy r == ng o r with
          | true => rfl
          | false => exact absurd (hiff1.mpr z) hm0
        refine ⟨(List.replicate n (1 : Int)).map V.int, hd2, small_lt (by rw [List.length_map, List.length_replicate]; omega), sm_over sH hD, n + 1, ?_, by omega, ?_⟩
        · rw [upd_same, List.replicate_succ', List.map_append]
          rfl
        · rw [eo, List.any_append]
          simp [e]
      · have hm0 : m = 0 := by
          have := congrArg List.length h
          simpa using this
        have e : meet wy o = false := hiff1.mp hm0
        refine ⟨sH, n, hd2, by omega, ?_⟩
        rw [eo, List.any_append, hiff]
        simp [e]
  · obtain ⟨sm, n, hd, hn, hiff⟩ := p
    refine ⟨(by decide : 0 ≤ sizeLine), fun e he => ?_⟩
    have s2 := sm_then (o := .lst []) sm he
    refine rEqL (ns := List.replicate n 1) (ms := []) (SqL.of ((sm_new he) _ _ hd)) (SqL.of upd_same) ?_
    refine bl_to (Q := Q) ?_ (q _ s2)
    rw [lw, List.take_length] at hiff
    unfold apart
    cases z : os.any (meet wy) with
    | false =>
      rw [hiff.mpr z]
      rfl
    | true =>
      have hn0 : n ≠ 0 := fun e0 => by
        rw [hiff.mp e0] at z
        cases z
      rw [decide_eq_false]
      · rfl
      · intro e0
        have := congrArg List.length e0
        simp at this
        exact hn0 this
end
end K90
namespace K90
open PySem PySem.Spec PyProof.Rows L2
/-- what is stored after j of the ways ls that begin at s -/
def storedL (b : Nat) (ls : List (List Nat)) (s j : Nat) : Nat × Nat → Prop := fun p => (p.2 < 2 ^ b ∧ p.1 < s) ∨ (p.1 = s ∧ ∃ w ∈ ls.take j, lst w = p.2)
theorem storedL_zero {b : Nat} {ls : List (List Nat)} {s : Nat} (p : Nat × Nat) : storedL b ls s 0 p ↔ p.2 < 2 ^ b ∧ p.1 < s := by simp [storedL]
theorem storedL_succ {b : Nat} {ls : List (List Nat)} {s j : Nat} {w : List Nat} (h : ls[j]? = some w) (p : Nat × Nat) : (storedL b ls s j p ∨ p = (s, lst w)) ↔ storedL b ls s (j + 1) p := by
  obtain ⟨x, y⟩ := p
  unfold storedL
  rw [List.take_add_one, h]
  simp only [Option.toList_some, List.mem_append, List.mem_singleton, Prod.mk.injEq]
  constructor
  · rintro ((⟨h1, h2⟩ | ⟨h1, w', h2, h3⟩) | ⟨h1, h2⟩)
    · exact .inl ⟨h1, h2⟩
    · exact .inr ⟨h1, w', .inl h2, h3⟩
    · exact .inr ⟨h1, w, .inr rfl, h2.symm⟩
  · rintro (⟨h1, h2⟩ | ⟨h1, w', h2 | h2, h3⟩)
    · exact .inl (.inl ⟨h1, h2⟩)
    · exact .inl (.inr ⟨h1, w', h2, h3⟩)
    · subst h2
      exact .inr ⟨h1, h3.symm⟩
theorem storedL_full {b : Nat} {os ls : List (List Nat)} (B : Ban b os) {s : Nat} (hs : s / 2 < 2 ^ (b - 1)) (hl : ls.Perm (fwd os (s / 2))) (p : Nat × Nat) : storedL b ls s ls.length p ↔ p.2 < 2 ^ b ∧ p.1 < s + 1 := by
  unfold storedL
  rw [List.take_length]
  have e := fwd_last os (s / 2)
  have pm := B (s / 2) hs
  rw [← e] at pm
  have pm := (hl.map lst).trans pm
  constructor
  · rintro (⟨h1, h2⟩ | ⟨h1, w, h2, h3⟩)
    · exact ⟨h1, by omega⟩
    · refine ⟨?_, by omega⟩
      have m := pm.mem_iff.mp (List.mem_map.mpr ⟨w, h2, h3⟩)
      exact List.mem_range.mp m
  · rintro ⟨h1, h2⟩
    by_cases h3 : p.1 < s
    · exact .inl ⟨h1, h3⟩
    · have m := pm.mem_iff.mpr (List.mem_range.mpr h1)
      obtain ⟨w, h4, h5⟩ := List.mem_map.mp m
      exact .inr ⟨by omega, w, h4, h5⟩
theorem perm_way {b : Nat} {os ls : List (List Nat)} (N : Net b os) (B : Ban b os) {s : Nat} (hs : s / 2 < 2 ^ (b - 1)) (hl : ls.Perm (fwd os (s / 2))) {w : List Nat} (h : w ∈ ls) : w = way os (s, lst w) ∧ w ≠ [] ∧ w.length = b ∧ lst w < 2 ^ b := by
  have m := hl.mem_iff.mp h
  have ok := fwd_ok N hs
  have l1 := ok.len w m
  have ne : w ≠ [] := fun e => by
    rw [e] at l1
    have := N.lo
    simp at l1
    omega
  have l2 := ok.lt w m _ (lst_mem ne)
  exact ⟨way_eq B (p := (s, lst w)) hs m rfl l2, ne, l1, l2⟩
theorem filter_find {α : Type} (b P : α → Bool) : ∀ l : List α, (l.filter b).find? P = l.find? fun x => b x && P x
  | [] => rfl
  | x :: r => by
    rw [List.filter_cons, List.find?_cons]
    cases h : b x with
    | true =>
      rw [if_pos rfl, List.find?_cons, Bool.true_and, filter_find b P r]
    | false => 
      rw [if_neg (by decide), filter_find b P r, Bool.false_and]
section
variable {P : Program} {w : World} {K : PySem.W.Frag} {mg : Str → Option Value} {base : Heap}
/-! ### _law_table -/
theorem ok__law_table {f : Addr} {fd : FuncData} (T : Glob mg) (D : DefAt K mg "_law_table" s_law_table ["_law_net"] f fd) (R_law_ways : Ready P w K mg base 1 "_law_ways" ["_law_net", "_law_begin"] spWays) :
    Ready P w K mg base 2 "_law_table" ["_law_net"] spTab := by
  refine D.ready (D.fn.ok sc_law_table (fun vs H Q E h => ?_) fun cdv A outer s H vs Q E hr h => ?_)
  · obtain ⟨_, _, _, rfl, _⟩ := h
    rfl
  obtain ⟨v, b, os, rfl, ⟨a, o, ws, rfl, ha, ho, hw⟩, N, B, q⟩ := h
  have nd := sc_law_table.nd
  have hu := hu_of hr
  have hr_law_ways := hr
  have n4 := N.hi
  have n1 := N.lo
  have n16 := pow_le16 n4
  refine ⟨_, pss_cons (ps_set (i := 1) nd rfl (Or.inl rfl) pe_dnewT)
      (pss_cons (ps_for PassesOwn.never rfl (pi_range1 (by rfl) T.range (pa_cons (pe_op op_oneShl pe_int (pe_ix ix_tup (pv 0) pe_int (fun _ _ => rfl))) pa_nil)) (pg_name (i := 2) nd rfl (Or.inl rfl))
      (pss_one (ps_for PassesOwn.never rfl (pi_list (pe_rd R_law_ways hr_law_ways rfl (pa_cons (pv 0) (pa_cons (pv 2) pa_nil)))) (pg_name (i := 3) nd rfl (Or.inl rfl))
        (pss_one (ps_dput hu (pv 1) (pe_tup (pa_cons (pv 2) (pa_cons (pe_ix ix_tup (pv 3) (pe_un un_neg pe_int) (fun _ _ => rfl)) pa_nil))) (pv 3) rfl)))))
      (pss_one (ps_ret (pv 1)))), ?_⟩
  refine fun t ht => ?_
  have s0 : Same H (upd H t (.dT [])) := sm_new ht
  refine ⟨_, rfl, a, _, 0, _, rfl, rfl, SqT.of (s0 _ _ ha), atI_nat (j := 0) rfl, b, rfl, rfl, by omega, ?_⟩
  have l61 : -(2 ^ 62 : Int) ≤ ((2 ^ b : Nat) : Int) := Int.le_trans (by decide) (Int.natCast_nonneg _)
  have u61 : ((2 ^ b : Nat) : Int) < 2 ^ 62 := Int.lt_of_le_of_lt (Int.ofNat_le.mpr n16) (by decide)
  refine ⟨((2 ^ b : Nat) : Int), by simp, l61, u61, ?_⟩
  rw [Int.toNat_natCast]
  refine for_it walk_r0 (fun i σ H' => Same H H' ∧ ∃ y2 y3 kvs, σ = [some (.ref a), some (.ref t), y2, y3] ∧ H' t = some (.dT kvs) ∧ Built H' os (fun p => p.2 < 2 ^ b ∧ p.1 < i) (i * 16) kvs)
    ⟨s0, none, none, [], rfl, upd_same, (Built.nil _ os _ fun p => by omega).iff (fun p => Iff.rfl) (by omega)⟩ (fun _ _ _ _ _ => trivial) (fun i y σ H1 H2 hi p y1 => ?_) (fun σ H' p => ?_)
  · obtain ⟨s1, y2, y3, kvs, rfl, ht1, hB⟩ := p
    obtain ⟨rfl, rfl⟩ := y1
    have hs := half_lt N.lo hi
    refine ⟨_, rfl, _, rfl, _, b, os, i, rfl, ⟨a, o, ws, rfl, s1 _ _ ha, s1 _ _ ho, hw.same s1⟩, N, hi, fun H3 c vs ls k3 hc3 hr3 hperm => ?_⟩
    have lv : vs.length = ls.length := hr3.1
    have l16 : ls.length ≤ 16 := by
      rw [hperm.length_eq]
      exact ways_le N _
    have ht3 := k3 _ _ ht1
    refine ⟨c, rfl, ⟨vs, SqL.of hc3⟩, for_it (walk_list (xs := vs)) (fun j σ H' => Same H H' ∧ H' c = some (.lst vs) ∧ RowsAt H' vs ls ∧ ∃ y3 kvs, σ = [some (.ref a), some (.ref t), some (vN i), y3] ∧ H' t = some (.dT kvs) ∧ Built H' os (storedL b ls i j) (i * 16 + j) kvs)
        ⟨s1.trans k3, hc3, hr3, y3, kvs, rfl, ht3, (hB.mono fun _ _ e => k3 _ _ e).iff (fun p => (storedL_zero p).symm) (by omega)⟩ (fun j σ H' _ p => SqL.of p.2.1) (fun j x σ H4 H5 hj p y => ?_) (fun σ H' p => ?_)⟩
    · obtain ⟨k4, hc4, hr4, y3, kvs4, rfl, ht4, hB4⟩ := p
      obtain ⟨rfl, hx⟩ := y
      obtain ⟨pw, wy, e1, e2, e3⟩ := hr4.get (i := j) (by omega)
      have ex : V.ref pw = x := Option.some.inj (e1.symm.trans hx)
      subst ex
      obtain ⟨f1, ne, fl, lt⟩ := perm_way N B hs hperm (List.mem_of_getElem? e2)
      have nct : c ≠ t := fun e => by
        rw [e, ht4] at hc4
        cases hc4
      refine ⟨_, rfl, _, rfl, _, rfl, _, rfl, _, rfl, pw, _, _, _, rfl, rfl, SqT.of e3, at_neg ne, (by decide : 2 ≤ sizeLine), fun p5 hp5 => ?_⟩
      have n5 : t ≠ p5 := ne_of_none ht4 hp5
      have k5 := sm_new (o := .tup [vN i, vN (lst wy)]) hp5
      refine ⟨t, _, rfl, DPut.t (k := kP (i, lst wy)) (k5 _ _ ht4) upd_same (Nat.lt_of_le_of_lt hB4.len (small_lt (by omega))), ?_⟩
      have hB6 := (hB4.mono fun z u e => k5 _ _ e).put (p := (i, lst wy)) (a := pw) (by rw [← f1]; exact k5 _ _ e3)
      have tup6 : ∀ {H' : Hp} {d : List (List Key × V)} {d' : List (List Key × V)} (z : Addr) (u : List V), H' t = some (.dT d) → H' z = some (.tup u) → (upd H' t (.dT d')) z = some (.tup u) := fun {H'} {d} {d'} z u e0 e => by
        rw [upd_ne fun e5 => ?_]
        · exact e
        · rw [e5, e0] at e
          cases e
      refine ⟨sm_over (k4.trans k5) ht, ?_, ?_, _, _, rfl, upd_same, ?_⟩
      · rw [upd_ne nct]
        exact k5 _ _ hc4
      · exact hr4.mono fun z u e => tup6 _ _ (k5 _ _ ht4) (k5 _ _ e)
      · exact (hB6.mono fun z u e => tup6 _ _ (k5 _ _ ht4) e).iff (fun p => storedL_succ e2 p) (by omega)
    · obtain ⟨k4, hc4, hr4, y3, kvs4, rfl, ht4, hB4⟩ := p
      refine ⟨k4, _, _, kvs4, rfl, ht4, hB4.iff (fun p => ?_) (by omega)⟩
      rw [lv]
      exact storedL_full B hs hperm p
  · obtain ⟨s1, y2, y3, kvs, rfl, ht1, hB⟩ := p
    refine ⟨_, rfl, q _ t s1 ⟨kvs, ht1, hB.iff (fun p => ?_) (by omega)⟩⟩
    rw [mem_allPairs]
    omega
/-! ### _law_passes -/
def spPasses : Sp := fun vs H Q _ => ∃ (v : V) (tt : Addr) (b : Nat) (os : List (List Nat)) (ws : List V) (ds : List (Nat × Nat)), vs = [v, .ref tt] ∧ NetAt H v b os ∧ Net b os ∧ Ban b os ∧ H tt = some (.tup ws) ∧ RowsAt H ws (ds.map pl) ∧ (∀ p ∈ ds, p ∈ allPairs (2 ^ b)) ∧ ds.length ≤ 100 ∧
  ∀ H', Same H H' → Q (.bl (passes (way os) [] ds)) H'
theorem ok__law_passes {f : Addr} {fd : FuncData} (T : Glob mg) (D : DefAt K mg "_law_passes" s_law_passes ["_law_net", "_law_some"] f fd) (R_law_ways : Ready P w K mg base 1 "_law_ways" ["_law_net", "_law_begin"] spWays)
    (R_law_apart : Ready P w K mg base 1 "_law_apart" ["_law_way", "_law_others"] spApartL) : Ready P w K mg base 2 "_law_passes" ["_law_net", "_law_some"] spPasses := by
  refine D.ready (D.fn.ok sc_law_passes (fun vs H Q E h => ?_) fun cdv A outer s H vs Q E hr h => ?_)
  · obtain ⟨_, _, _, _, _, _, rfl, _⟩ := h
    rfl
  obtain ⟨v, tt, b, os, ws, ds, rfl, n, N, B, htt, hws, hds, d100, q⟩ := h
  have nd := sc_law_passes.nd
  have hr_law_ways := hr
  have hr_law_apart := hr
  have n4 := N.hi
  have n16 := pow_le16 n4
  have lw : ws.length = ds.length := by rw [hws.1, List.length_map]
  refine ⟨_, pss_cons (ps_set (i := 2) nd rfl (Or.inl rfl) (pe_lst pa_nil))
      (pss_cons (ps_for PassesOwn.never rfl (pi_tup (pv 1)) (pg_tup rfl (pgs_cons (pg_name (i := 3) nd rfl (Or.inl rfl)) (pgs_cons (pg_name (i := 4) nd rfl (Or.inr rfl)) pgs_nil)))
      (pss_cons (ps_set (i := 5) nd rfl (Or.inl rfl) (pe_ix ix_list (pe_lc (own := [("_law_one", 6)]) rfl nd (pi_list (pe_rd R_law_ways hr_law_ways rfl (pa_cons (pv 0) (pa_cons (pv 3) pa_nil)))) (blkOk_by (own := [("_law_one", 6)]) (N := N_law_passes) (sc := (defScope s_law_passes)) (by decide +kernel)) (fun _ _ _ _ _ => (pg_name (i := 6) nd rfl (Or.inl rfl))) (fun _ _ _ _ _ => (pts_one (pt_cmp (pc_eqI (pe_ix (r := rIxT K) ix_tup (pv 6) (pe_un un_neg pe_int) (fun _ _ => rfl)) (pv 4))))) (fun _ _ _ _ _ => (pv 6))) pe_int (fun _ _ => rfl)))
        (pss_cons (ps_if (pt_not (pt_val (pe_rd R_law_apart hr_law_apart rfl (pa_cons (pv 5) (pa_cons (pv 2) pa_nil)))))
        (pss_one (ps_ret pe_bl))
        (pss_nil))
        (pss_one (ps_expr (pe_bm PySem.F.plainAttrs_list PySem.F.slot_list_append PySem.F.type_list_append mt_append (pv 2) (pa_cons (pv 5) pa_nil)))))))
      (pss_one (ps_ret pe_bl))), ?_⟩
  refine ⟨(by decide : 0 ≤ sizeLine), fun c hc => ?_⟩
  have s0 := sm_new (o := .lst []) hc
  refine ⟨_, rfl, tt, rfl, ⟨ws, SqT.of (s0 _ _ htt)⟩, for_it (walk_tup (xs := ws)) (fun i σ H' => Same H H' ∧ passes (way os) [] ds = passes (way os) (ds.take i) (ds.drop i) ∧ ∃ y3 y4 y5 y6 us, σ = [some v, some (.ref tt), some (.ref c), y3, y4, y5, y6] ∧ H' c = some (.lst us) ∧ RowsAt H' us ((ds.take i).map (way os)))
    ⟨s0, rfl, none, none, none, none, [], rfl, upd_same, RowsAt.nil _⟩ (fun i σ H' _ p => SqT.of (p.1 _ _ htt)) (fun i y σ H1 H2 hi p y1 => ?_) (fun σ H' p => ?_)⟩
  · obtain ⟨s1, hpass, y3, y4, y5, y6, us, rfl, hc1, hus⟩ := p
    obtain ⟨rfl, hy⟩ := y1
    obtain ⟨tp, p, g1, g2, g3⟩ := (hws.same s1).getP (i := i) (by omega)
    have ey : V.ref tp = y := Option.some.inj (g1.symm.trans hy)
    subst ey
    have pm := hds p (List.mem_of_getElem? g2)
    obtain ⟨pm1, pm2⟩ := mem_allPairs.mp pm
    have hs := half_lt N.lo pm1
    refine ⟨tp, _, rfl, SqT.of g3, rfl, _, _, rfl, _, _, rfl, rfl, ?_⟩
    refine ⟨_, rfl, _, rfl, v, b, os, p.1, rfl, n.same s1, N, pm1, fun H3 cl vs ls k3 hc3 hr3 hperm => ?_⟩
    have lv : vs.length = ls.length := hr3.1
    have l16 : ls.length ≤ 16 := by
      rw [hperm.length_eq]
      exact ways_le N _
    refine ⟨cl, rfl, ⟨vs, SqL.of hc3⟩, fun Dl hD => lc_it (walk_list (xs := vs)) (fun j H' => Same H3 H' ∧ ∃ zs, H' Dl = some (.lst zs) ∧ RowsAt H' zs ((ls.take j).filter fun w => lst w == p.2))
      ⟨sm_new hD, [], upd_same, RowsAt.nil _⟩ (fun j H' _ p => SqL.of (p.1 _ _ hc3)) (fun j x H4 H5 hj p5 y => ?_) (fun H' p5 => ?_)⟩
    · obtain ⟨k4, zs, hd4, hr4⟩ := p5
      obtain ⟨rfl, hx⟩ := y
      obtain ⟨pw, wy, e1, e2, e3⟩ := (hr3.same k4).get (i := j) (by omega)
      have ex : V.ref pw = x := Option.some.inj (e1.symm.trans hx)
      subst ex
      obtain ⟨f1, ne, fl, lt⟩ := perm_way N B hs hperm (List.mem_of_getElem? e2)
      have et : (ls.take (j + 1)).filter (fun w => lst w == p.2) = (ls.take j).filter (fun w => lst w == p.2) ++ if (lst wy == p.2) = true then [wy] else [] := by
        rw [List.take_add_one, e2, List.filter_append]
        show _ ++ List.filter _ [wy] = _
        rw [List.filter_cons]
        split <;> rfl
      refine ⟨rfl, _, rfl, _, rfl, pw, _, _, _, rfl, rfl, SqT.of e3, at_neg ne, _, rfl, _, _, rfl, rfl, _, rfl, iteD (fun h => ?_) (fun h => ?_)⟩
      · refine ⟨_, rfl, zs, hd4, ?_, sm_over k4 hD, _, upd_same, ?_⟩
        · rw [hr4.1]
          refine small_lt (Nat.le_trans (List.length_filter_le _ _) ?_)
          rw [List.length_take]
          omega
        · rw [et, if_pos (by rw [beq_iff_eq]; omega)]
          have up : ∀ z l, H5 z = some (.tup l) → (upd H5 Dl (.lst (zs ++ [V.ref pw]))) z = some (.tup l) := fun z l e => by
            rw [upd_ne fun e5 => ?_]
            · exact e
            · rw [e5, hd4] at e
              cases e
          exact (hr4.mono up).snoc (up _ _ e3)
      · refine ⟨k4, zs, hd4, ?_⟩
        rw [et, if_neg (by rw [beq_iff_eq]; omega), List.append_nil]
        exact hr4
    · obtain ⟨k4, zs, hd4, hr4⟩ := p5
      rw [lv, List.take_length] at hr4
      obtain ⟨wm1, wm2⟩ := way_mem B (p := p) hs pm2
      have mem : way os p ∈ ls.filter (fun w => lst w == p.2) := List.mem_filter.mpr ⟨hperm.mem_iff.mpr wm1, beq_iff_eq.mpr wm2⟩
      have lpos : 0 < (ls.filter (fun w => lst w == p.2)).length := List.length_pos_of_mem mem
      obtain ⟨pw, wy, e1, e2, e3⟩ := hr4.get (i := 0) lpos
      have mwy := List.mem_filter.mp (List.mem_of_getElem? e2)
      obtain ⟨f1, ne, fl, lt⟩ := perm_way N B hs hperm mwy.1
      have ewy : wy = way os p := by
        rw [f1, beq_iff_eq.mp mwy.2]
      subst ewy
      refine ⟨Dl, _, 0, _, rfl, rfl, SqL.of hd4, atI_nat (j := 0) e1, ?_⟩
      have s4 := (s1.trans k3).trans k4
      have hc4 := (k3.trans k4) _ _ hc1
      have hus4 := hus.same (k3.trans k4)
      refine ⟨_, rfl, _, rfl, pw, c, way os p, us, (ds.take i).map (way os), rfl, e3, hc4, hus4, fun o ho => ?_, by omega, ?_, fun H6 s6 => ?_⟩
      · obtain ⟨p', hp', rfl⟩ := List.mem_map.mp ho
        rw [fl, way_len N B (hds _ (List.mem_of_mem_take hp'))]
      · rw [List.length_map, List.length_take]
        omega
      have hdrop : ds.drop i = p :: ds.drop (i + 1) := by
        have hi' : i < ds.length := by omega
        have ep : ds[i] = p := (List.getElem?_eq_some_iff.mp g2).2
        rw [← ep]
        exact List.drop_eq_getElem_cons hi'
      rw [hdrop] at hpass
      refine ⟨apart (way os p) ((ds.take i).map (way os)), rfl, ?_⟩
      cases hap : apart (way os p) ((ds.take i).map (way os)) with
      | false =>
        refine iteT ?_
        have e : passes (way os) [] ds = false := by
          rw [hpass]
          show (if apart (way os p) ((ds.take i).map (way os)) = true then _ else _) = _
          rw [hap]
          rfl
        exact bl_to (Q := Q) e.symm (q _ (s4.trans s6))
      | true =>
        refine iteF ?_
        have hc6 := s6 _ _ hc4
        have lus : us.length ≤ 100 := by
          rw [hus.1, List.length_map, List.length_take]
          omega
        refine ⟨_, rfl, .inl ⟨rfl, _, SqL.of hc6⟩, _, rfl, c, us, _, rfl, rfl, hc6, small_lt (by omega), ?_⟩
        have e : passes (way os) [] ds = passes (way os) (ds.take (i + 1)) (ds.drop (i + 1)) := by
          rw [hpass]
          show (if apart (way os p) ((ds.take i).map (way os)) = true then passes (way os) (ds.take i ++ [p]) (ds.drop (i + 1)) else false) = _
          rw [hap, if_pos rfl, List.take_add_one, g2]
          rfl
        have up : ∀ z l, H6 z = some (.tup l) → (upd H6 c (.lst (us ++ [V.ref pw]))) z = some (.tup l) := fun z l e => by
          rw [upd_ne fun e5 => ?_]
          · exact e
          · rw [e5, hc6] at e
            cases e
        refine ⟨sm_over (s4.trans s6) hc, e, _, _, _, _, _, rfl, upd_same, ?_⟩
        rw [List.take_add_one, g2, List.map_append]
        exact ((hus4.same s6).mono up).snoc (up _ _ (s6 _ _ e3))
  · obtain ⟨s1, hpass, y3, y4, y5, y6, us, rfl, hc1, hus⟩ := p
    rw [lw, List.take_length, List.drop_length] at hpass
    have e : passes (way os) [] ds = true := by rw [hpass]; rfl
    exact bl_to (Q := Q) e.symm (q _ s1)
end
end K90
namespace K90
open PySem PySem.Spec PyProof.Rows L2
section
variable {P : Program} {w : World} {K : PySem.W.Frag} {mg : Str → Option Value} {base : Heap}
theorem ok__law_parting {f : Addr} {fd : FuncData} (T : Glob mg) (D : DefAt K mg "_law_parting" s_law_parting ["_law_net", "_law_other"] f fd) (R_law_table : Ready P w K mg base 2 "_law_table" ["_law_net"] spTab)
    (R_law_apart : Ready P w K mg base 1 "_law_apart" ["_law_way", "_law_others"] spApartL) : Ready P w K mg base 3 "_law_parting" ["_law_net", "_law_other"] spFirst := by
  refine D.ready (D.fn.ok sc_law_parting (fun vs H Q E h => ?_) fun cdv A outer s H vs Q E hr h => ?_)
  · obtain ⟨_, _, _, _, _, rfl, _⟩ := h
    rfl
  obtain ⟨v, u, b, os, ps, rfl, n, m, N, M, B, C, q⟩ := h
  have nd := sc_law_parting.nd
  have hu := hu_of hr
  have hr_law_table := hr
  have hr_law_apart := hr.mono (by decide : 1 ≤ 2)
  have n4 := N.hi
  have n16 := pow_le16 n4
  refine ⟨_, pss_cons (ps_set (i := 2) nd rfl (Or.inl rfl) (pe_lst (pa_cons (pe_rd R_law_table hr_law_table rfl (pa_cons (pv 0) pa_nil)) (pa_cons (pe_rd R_law_table hr_law_table rfl (pa_cons (pv 1) pa_nil)) pa_nil))))
      (pss_cons (ps_for PassesOwn.never rfl (pi_list (pe_callB cr_sortedPO (by rfl) T.sorted (by decide +kernel) (pa_cons (pe_callTy (call_list_dT rfl) (by rfl) T.list (by decide +kernel) (pa_cons (pe_ix ix_list (pv 2) pe_int (fun _ _ => rfl)) pa_nil)) pa_nil))) (pg_name (i := 3) nd rfl (Or.inr rfl))
      (pss_one (ps_for PassesOwn.never rfl (pi_list (pe_callB cr_sortedPO (by rfl) T.sorted (by decide +kernel) (pa_cons (pe_callTy (call_list_dT rfl) (by rfl) T.list (by decide +kernel) (pa_cons (pe_ix ix_list (pv 2) pe_int (fun _ _ => rfl)) pa_nil)) pa_nil))) (pg_name (i := 4) nd rfl (Or.inr rfl))
        (pss_one (ps_if (PW.pt (pw_and (pt_cmp (pc_gt (pe_ix ix_tup (pv 4) pe_int (fun _ _ => rfl)) (pe_ix ix_tup (pv 3) pe_int (fun _ _ => rfl)))) (pw_and1 (pt_cmp (pc_neI (pe_ix ix_tup (pv 4) pe_int (fun _ _ => rfl)) (pe_ix ix_tup (pv 3) pe_int (fun _ _ => rfl)))))))
          (pss_cons (ps_setLc (i := 5) (own := [("_law_some", 6)]) rfl nd rfl rfl (sw_true rfl rfl rfl (by decide +kernel)) (pi_list (pv 2)) (blkOk_by (own := [("_law_some", 6)]) (N := N_law_parting) (sc := (defScope s_law_parting)) (by decide +kernel)) (fun _ _ _ _ _ => (pg_name (i := 6) nd rfl (Or.inl rfl))) (fun _ _ _ _ _ => pts_nil) (fun _ _ _ _ _ => (pe_rd R_law_apart hr_law_apart rfl (pa_cons (pe_dget hu (pv 6) (pv 3) (fun _ _ => rfl)) (pa_cons (pe_lst (pa_cons (pe_dget hu (pv 6) (pv 4) (fun _ _ => rfl)) pa_nil)) pa_nil)))))
            (pss_one (ps_if (pt_cmpR op_ne (pe_ix ix_list (pv 5) pe_int (fun _ _ => rfl)) (pe_ix ix_list (pv 5) pe_int (fun _ _ => rfl)) (nomark _))
            (pss_one (ps_ret (pe_tup (pa_cons (pv 3) (pa_cons (pv 4) pa_nil)))))
            (pss_nil))))
          (pss_nil))))))
      (pss_one (ps_ret pe_non))), ?_⟩
  refine ⟨_, rfl, v, b, os, rfl, n, N, B, fun H1 t1 s1 T1 => ?_⟩
  refine ⟨_, rfl, u, b, ps, rfl, m.same s1, M, C, fun H2 t2 s2 T2 => ⟨(by decide : 2 ≤ sizeLine), fun cw hcw => ?_⟩⟩
  have kw := sm_new (o := .lst [V.ref t1, V.ref t2]) hcw
  have s02 := (s1.trans s2).trans kw
  have T1' := (T1.same s2).same kw
  have T2' := T2.same kw
  have hcw2 : (upd H2 cw (.lst [V.ref t1, V.ref t2])) cw = some (.lst [V.ref t1, V.ref t2]) := upd_same
  generalize upd H2 cw (.lst [V.ref t1, V.ref t2]) = H3 at s02 T1' T2' hcw2 ⊢
  obtain ⟨kvs, kv1, kv2⟩ := sort_tab (K := K) T1'
  refine ⟨_, rfl, cw, _, 0, _, rfl, rfl, SqL.of hcw2, atI_nat (j := 0) rfl, t1, kvs, rfl, kv1, fun pb bs hpb hbs => ?_⟩
  obtain ⟨kv3, kv4, kv5⟩ := kv2 pb bs hpb hbs
  refine ⟨pb, _, _, rfl, kv3, kv4, fun ys c3 hys1 hys2 hc3' => ?_⟩
  obtain ⟨s3, hc3, hr3⟩ := kv5 ys c3 hys1 hys2 hc3'
  generalize upd (upd H3 pb (.lst (bs.map V.ref))) c3 (.lst ys) = H4 at s3 hc3 hr3 ⊢
  have s04 := s02.trans s3
  have T14 := T1'.same s3
  have T24 := T2'.same s3
  have hcw4 := s3 _ _ hcw2
  have ly : ys.length = (allPairs (2 ^ b)).length := by
    rw [hr3.1, List.length_map]
  refine ⟨c3, rfl, ⟨_, SqL.of hc3⟩, for_it (walk_list (xs := ys)) (fun i σ H' => Same H4 H' ∧ (((allPairs (2 ^ b)).take i).findSome? fun p => (((allPairs (2 ^ b)).filter (beyond p)).find? (partsAt (way os) (way ps) p)).map fun q => (p, q)) = none ∧ ∃ y3 y4 y5 y6, σ = [some v, some u, some (.ref cw), y3, y4, y5, y6])
    ⟨Same.refl _, by simp, none, none, none, none, rfl⟩ (fun i σ H' _ p => SqL.of (p.1 _ _ hc3)) (fun i y σ H5 H6 hi p y1 => ?_) (fun σ H' p => ?_)⟩
  · obtain ⟨s5, hno, y3, y4, y5, y6, rfl⟩ := p
    obtain ⟨rfl, hy⟩ := y1
    obtain ⟨tp, p, g1, g2, g3⟩ := (hr3.same s5).getP (i := i) (by omega)
    have ey : V.ref tp = y := Option.some.inj (g1.symm.trans hy)
    subst ey
    have pm := List.mem_of_getElem? g2
    have s06 := s04.trans s5
    have T16 := T14.same s5
    have T26 := T24.same s5
    have hcw6 := s5 _ _ hcw4
    obtain ⟨kvs', kv1', kv2'⟩ := sort_tab (K := K) T16
    refine ⟨_, rfl, cw, _, 0, _, rfl, rfl, SqL.of hcw6, atI_nat (j := 0) rfl, t1, kvs', rfl, kv1', fun pb' bs' hpb' hbs' => ?_⟩
    obtain ⟨kv3', kv4', kv5'⟩ := kv2' pb' bs' hpb' hbs'
    refine ⟨pb', _, _, rfl, kv3', kv4', fun zs c7 hzs1 hzs2 hc7' => ?_⟩
    obtain ⟨s7, hc7, hr7⟩ := kv5' zs c7 hzs1 hzs2 hc7'
    generalize upd (upd H6 pb' (.lst (bs'.map V.ref))) c7 (.lst zs) = H7 at s7 hc7 hr7 ⊢
    have lz : zs.length = (allPairs (2 ^ b)).length := by
      rw [hr7.1, List.length_map]
    have g7 := s7 _ _ g3
    refine ⟨c7, rfl, ⟨_, SqL.of hc7⟩, for_it (walk_list (xs := zs)) (fun j σ H' => Same H7 H' ∧ (((allPairs (2 ^ b)).take j).find? fun q => beyond p q && partsAt (way os) (way ps) p q) = none ∧ ∃ y4 y5 y6, σ = [some v, some u, some (.ref cw), some (.ref tp), y4, y5, y6])
      ⟨Same.refl _, by simp, y4, y5, y6, rfl⟩ (fun j σ H' _ p => SqL.of (p.1 _ _ hc7)) (fun j y σ H8 H9 hj p9 y1 => ?_) (fun σ H9 p9 => ?_)⟩
    · obtain ⟨s9, hno9, y4, y5, y6, rfl⟩ := p9
      obtain ⟨rfl, hy⟩ := y1
      obtain ⟨tq, q', g1', g2', g3'⟩ := (hr7.same s9).getP (i := j) (by omega)
      have ey : V.ref tq = y := Option.some.inj (g1'.symm.trans hy)
      subst ey
      have qm := List.mem_of_getElem? g2'
      have g9 := s9 _ _ g7
      have s69 := s7.trans s9
      refine ⟨_, rfl, tq, _, 0, _, rfl, rfl, SqT.of g3', atI_nat (j := 0) rfl, _, rfl, tp, _, 0, _, rfl, rfl, SqT.of g9, atI_nat (j := 0) rfl, _, _, rfl, rfl, _, rfl, iteD (fun h1 => ?_) (fun h1 => ?_)⟩
      · refine ⟨_, rfl, tq, _, 1, _, rfl, rfl, SqT.of g3', atI_nat (j := 1) rfl, _, rfl, tp, _, 1, _, rfl, rfl, SqT.of g9, atI_nat (j := 1) rfl, _, _, rfl, rfl, _, rfl, iteN (fun h2 => ?_) (fun h2 => ?_)⟩
        · have eb : beyond p q' = true := by
            unfold beyond
            rw [Bool.and_eq_true, decide_eq_true_iff, decide_eq_true_iff]
            exact ⟨by omega, by omega⟩
          have T19 := T16.same s69
          have T29 := T26.same s69
          have hcw9 := s69 _ _ hcw6
          have both : ∀ (k : Nat) (x : V), [V.ref t1, V.ref t2][k]? = some x → ∃ t os', x = V.ref t ∧ TabAt H9 t b os' ∧ Net b os' ∧ Ban b os' ∧ [apart (way os p) [way os q'], apart (way ps p) [way ps q']][k]? = some (apart (way os' p) [way os' q']) := fun k x e => by
            match k, e with
            | 0, e =>
              cases e
              exact ⟨t1, os, rfl, T19, N, B, rfl⟩
            | 1, e =>
              cases e
              exact ⟨t2, ps, rfl, T29, M, C, rfl⟩
            | k + 2, e => simp at e
          refine ⟨_, rfl, cw, rfl, ⟨_, SqL.of hcw9⟩, fun Dl hD => lc_it (walk_list (xs := [V.ref t1, V.ref t2])) (fun k H' => Same H9 H' ∧ H' Dl = some (.lst (([apart (way os p) [way os q'], apart (way ps p) [way ps q']].take k).map V.bl)))
            ⟨sm_new hD, upd_same⟩ (fun k H' _ p => SqL.of (p.1 _ _ hcw9)) (fun k x H10 H11 hk p11 y1 => ?_) (fun H' p11 => ?_)⟩
          · obtain ⟨s11, hd⟩ := p11
            obtain ⟨rfl, hx⟩ := y1
            obtain ⟨t, os', rfl, TT, N', B', e7⟩ := both k x hx
            obtain ⟨x1, d1, w1⟩ := (TT.same s11).get pm (s11 _ _ g9)
            obtain ⟨x2, d2, w2⟩ := (TT.same s11).get qm (s11 _ _ g3')
            refine ⟨rfl, yesT ⟨_, rfl, _, rfl, t, _, rfl, d1, _, rfl, _, rfl, t, _, rfl, d2, (by decide : 1 ≤ sizeLine), fun l1 hl1 => ?_⟩⟩
            have k1 := sm_new (o := .lst [V.ref x2]) hl1
            refine ⟨x1, l1, way os' p, [V.ref x2], [way os' q'], rfl, k1 _ _ w1, upd_same, RowsAt.one (k1 _ _ w2), fun o ho => ?_, by rw [way_len N' B' pm]; exact n4, (by decide : 1 ≤ 100), fun H12 s12 => ?_⟩
            · rw [List.mem_singleton.mp ho, way_len N' B' pm, way_len N' B' qm]
            have s13 := k1.trans s12
            refine ⟨_, s13 _ _ hd, ?_, sm_over (s11.trans s13) hD, ?_⟩
            · rw [List.length_map, List.length_take]
              exact small_lt (by simp; omega)
            · rw [upd_same, List.take_add_one, e7, List.map_append]
              rfl
          · obtain ⟨s11, hd⟩ := p11
            refine ⟨_, rfl, Dl, _, 0, _, rfl, rfl, SqL.of hd, atI_nat (j := 0) rfl, _, rfl, Dl, _, 1, _, rfl, rfl, SqL.of hd, atI_nat (j := 1) rfl, ?_⟩
            have epart : (!decide (V.bl (apart (way os p) [way os q']) = V.bl (apart (way ps p) [way ps q']))) = partsAt (way os) (way ps) p q' := by
              rw [apart_meet, apart_meet]
              unfold partsAt
              cases meet (way os p) (way os q') <;> cases meet (way ps p) (way ps q') <;> rfl
            refine ⟨rfl, partsAt (way os) (way ps) p q', congrArg V.bl epart, ?_⟩
            have s0 := ((s06.trans s69).trans s11)
            cases hpa : partsAt (way os) (way ps) p q' with
            | true =>
              refine iteT ?_
              refine ⟨_, rfl, _, rfl, (by decide : 2 ≤ sizeLine), fun a ha => q _ _ (sm_then s0 ha) ?_⟩
              have hp := some_hit hno g2 (by rw [filter_find, find_hit hno9 g2' (by rw [eb, hpa]; rfl)]; rfl)
              rw [parting_eq, hp]
              have k5 := sm_new (o := .tup [V.ref tp, V.ref tq]) ha
              exact ⟨a, tp, tq, rfl, upd_same, k5 _ _ (s11 _ _ g9), k5 _ _ (s11 _ _ g3')⟩
            | false =>
              exact iteF ⟨s9.trans s11, find_miss hno9 g2' (by rw [hpa, Bool.and_false]), _, _, _, rfl⟩
        · have eb : beyond p q' = false := by
            unfold beyond
            rw [Bool.and_eq_false_iff, decide_eq_false_iff_not, decide_eq_false_iff_not]
            omega
          exact ⟨s9, find_miss hno9 g2' (by rw [eb, Bool.false_and]), _, _, _, rfl⟩
      · have eb : beyond p q' = false := by
          unfold beyond
          rw [Bool.and_eq_false_iff, decide_eq_false_iff_not, decide_eq_false_iff_not]
          omega
        exact iteF ⟨s9, find_miss hno9 g2' (by rw [eb, Bool.false_and]), _, _, _, rfl⟩
    · obtain ⟨s9, hno9, y4, y5, y6, rfl⟩ := p9
      rw [lz, List.take_length] at hno9
      exact ⟨(s5.trans s7).trans s9, some_miss hno g2 (by rw [filter_find, hno9]; rfl), _, _, _, _, rfl⟩
  · obtain ⟨s5, hno, y3, y4, y5, y6, rfl⟩ := p
    rw [ly, List.take_length] at hno
    refine q _ _ (s04.trans s5) ?_
    rw [parting_eq, hno]
    rfl
end
end K90
namespace K90
open PySem PySem.Spec PyProof.Rows L2
theorem sqL_same {K : PySem.W.Frag} {H H' : Hp} {a : Addr} {xs : List V} (h : SqL K H a xs) (s : Same H H') : SqL K H' a xs := by
  rcases h with (e | ⟨o, e⟩) | r
  · exact .inl (.inl (s _ _ e))
  · exact .inl (.inr ⟨o, s _ _ e⟩)
  · exact .inr r
abbrev kCells : Key := .inr (Str.ofString "cells")
abbrev kGreat : Key := .inr (Str.ofString "great")
abbrev kSpot : Key := .inr (Str.ofString "spot")
def mkvs (c g : Addr) (n : Nat) : List (Key × V) := [(kCells, .ref c), (kGreat, .ref g), (kSpot, vN n)]
/-- the cells and the great ones stand, n draws have been made -/
def DrawAt (H : Hp) (m : Addr) (g : Addr × Addr) (n : Nat) : Prop := ∃ (cs gs : List Int), H m = some (.dK (mkvs g.2 g.1 n)) ∧ H g.2 = some (.lst (cs.map V.int)) ∧ H g.1 = some (.lst (gs.map V.int)) ∧ g.2 ≠ g.1 ∧ cs.length = 64 ∧ (∀ x ∈ cs, 0 ≤ x ∧ x < 2147483647) ∧ gs.length ≤ 63
theorem mk_cells (c g : Addr) (n : Nat) : valV (mkvs c g n) kCells = some (.ref c) := by rfl
theorem mk_great (c g : Addr) (n : Nat) : valV (mkvs c g n) kGreat = some (.ref g) := by rfl
theorem mk_spot (c g : Addr) (n : Nat) : valV (mkvs c g n) kSpot = some (vN n) := by rfl
theorem mk_put (c g : Addr) (n k : Nat) : putK (mkvs c g n) kSpot (vN k) = mkvs c g k := by rfl
theorem DrawAt.same {H H' : Hp} {m : Addr} {g : Addr × Addr} {n : Nat} (d : DrawAt H m g n) (s : Same H H') : DrawAt H' m g n := by
  obtain ⟨cs, gs, h1, h2, h3, r⟩ := d
  exact ⟨cs, gs, s _ _ h1, s _ _ h2, s _ _ h3, r⟩
theorem DrawAt.neM {H : Hp} {m a : Addr} {g : Addr × Addr} {n : Nat} {xs : List V} (d : DrawAt H m g n) (h : H a = some (.tup xs)) : a ≠ m ∧ a ≠ g.1 := by
  obtain ⟨cs, gs, h1, h2, h3, r⟩ := d
  exact ⟨fun e => (by rw [e, h1] at h; cases h), fun e => (by rw [e, h3] at h; cases h)⟩
/-- a is none of the three -/
structure Off (m : Addr) (g : Addr × Addr) (a : Addr) : Prop where
  nM : a ≠ m
  nG : a ≠ g.1
  nC : a ≠ g.2
theorem DrawAt.new {H : Hp} {m a : Addr} {g : Addr × Addr} {n : Nat} (d : DrawAt H m g n) (h : H a = none) : Off m g a := by
  obtain ⟨cs, gs, h1, h2, h3, r⟩ := d
  exact ⟨fun e => (by rw [e, h1] at h; cases h), fun e => (by rw [e, h3] at h; cases h), fun e => (by rw [e, h2] at h; cases h)⟩
theorem DrawAt.upd {H : Hp} {m a : Addr} {g : Addr × Addr} {n : Nat} {o : HO} (d : DrawAt H m g n) (h : Off m g a) : DrawAt (L2.upd H a o) m g n := by
  obtain ⟨cs, gs, h1, h2, h3, r⟩ := d
  refine ⟨cs, gs, ?_, ?_, ?_, r⟩
  · rw [upd_ne h.nM.symm]
    exact h1
  · rw [upd_ne h.nC.symm]
    exact h2
  · rw [upd_ne h.nG.symm]
    exact h3
theorem Keep.tup {H H' : Hp} {m a : Addr} {g : Addr × Addr} {n : Nat} {xs : List V} (k : Keep m g.1 H H') (d : DrawAt H m g n) (h : H a = some (.tup xs)) : H' a = some (.tup xs) := k _ _ (d.neM h).1 (d.neM h).2 h
theorem Keep.off {H H' : Hp} {m a : Addr} {g : Addr × Addr} {o : HO} (k : Keep m g.1 H H') (h : Off m g a) (e : H a = some o) : H' a = some o := k _ _ h.nM h.nG e
section
variable {P : Program} {w : World} {K : PySem.W.Frag} {mg : Str → Option Value} {base : Heap}
/-! ### _law_mixed -/
def spMixed : Sp := fun vs H Q _ => ∃ (c : Int) (n : Nat), vs = [.int c, vN n] ∧ 0 ≤ c ∧ c < 2 ^ 60 ∧ n < 1000000 ∧ ∀ r : Int, 0 ≤ r → r < 2147483648 → Q (.int r) H
theorem ok__law_mixed {f : Addr} {fd : FuncData} (T : Glob mg) (D : DefAt K mg "_law_mixed" s_law_mixed ["_law_cell", "_law_n"] f fd) : Ready P w K mg base 1 "_law_mixed" ["_law_cell", "_law_n"] spMixed := by
  refine D.ready (D.fn.ok sc_law_mixed (fun vs H Q E h => ?_) fun cdv A outer s H vs Q E hr h => ?_)
  · obtain ⟨_, _, rfl, _⟩ := h
    rfl
  obtain ⟨c, n, rfl, c0, c1, hn, q⟩ := h
  have nd := sc_law_mixed.nd
  refine ⟨_, pss_cons (ps_set (i := 2) nd rfl (Or.inl rfl) (pe_op op_add (pe_op op_add (pe_op op_mod (pe_callTy call_int1 (by rfl) T.int (by decide +kernel) (pa_cons (pe_op op_mul (pe_op op_mul (pv 0) (pe_op op_add pe_int (pe_op op_mul pe_int (pv 1)))) pe_int) pa_nil)) pe_int) (pe_op op_mul (pe_op op_mul pe_int (pv 1)) (pv 1))) (pe_op op_mul pe_int (pv 1))))
      (pss_one (ps_ret (pe_op op_fdiv (pe_op op_mod (pe_callTy call_int1 (by rfl) T.int (by decide +kernel) (pa_cons (pe_op op_mul (pv 2) pe_int) pa_nil)) pe_int) pe_int))), ?_⟩
  have lt64 : ∀ {i : Int}, 0 ≤ i → i < 2 ^ 60 → CMul i (1 + 2 * (n : Int)) := fun {i} a b => .inl ⟨by omega, by omega⟩
  have sm : ∀ {i j : Int}, 0 ≤ j → j < 1000000000000 → CMul i j := fun {i j} a b => .inr ⟨by omega, by omega⟩
  have two : (0 : Int) < 2147483647 := by decide
  have two' : (0 : Int) < 2147483629 := by decide
  refine ⟨_, rfl, _, rfl, _, _, rfl, rfl, sm (by omega) (by omega), _, _, rfl, rfl, _, _, rfl, rfl, sm (by omega) (by omega), _, _, rfl, rfl, sm (by decide) (by decide), .inl ⟨_, rfl, ?_⟩⟩
  refine ⟨_, _, rfl, rfl, two, _, rfl, _, _, rfl, rfl, sm (by omega) (by omega), _, rfl, _, _, rfl, rfl, sm (by omega) (by omega), _, _, rfl, rfl, _, rfl, _, _, rfl, rfl, sm (by omega) (by omega), _, _, rfl, rfl, ?_⟩
  refine ⟨_, rfl, _, _, rfl, rfl, sm (by decide) (by decide), .inl ⟨_, rfl, ?_⟩⟩
  have seven : CDiv ((((c * (1 + 2 * (n : Int)) * 48271) % 2147483647 + 7919 * (n : Int) * (n : Int) + 104729 * (n : Int)) * 69621) % 2147483629) 7 := by constructor <;> decide
  refine ⟨_, _, rfl, rfl, two', _, _, rfl, rfl, seven, q _ ?_ ?_⟩
  · exact Int.ediv_nonneg (Int.emod_nonneg _ (by decide)) (by decide)
  · have := Int.emod_lt_of_pos ((((c * (1 + 2 * (n : Int)) * 48271) % 2147483647 + 7919 * (n : Int) * (n : Int) + 104729 * (n : Int)) * 69621)) two'
    omega
/-! ### _law_folded -/
def spFolded (K : PySem.W.Frag) : Sp := fun vs H Q _ => ∃ (a : Addr) (zs : List Int), vs = [.ref a] ∧ SqL K H a (zs.map V.int) ∧ zs.length ≤ 63 ∧
  ∀ (H' : Hp) (c : Addr) (cs : List Int), Same H H' → H c = none → H' c = some (.lst (cs.map V.int)) → cs.length = 64 → (∀ x ∈ cs, 0 ≤ x ∧ x < 2147483647) → Q (.ref c) H'
theorem ok__law_folded {f : Addr} {fd : FuncData} (T : Glob mg) (D : DefAt K mg "_law_folded" s_law_folded ["_law_script"] f fd) : Ready P w K mg base 1 "_law_folded" ["_law_script"] (spFolded K) := by
  refine D.ready (D.fn.ok sc_law_folded (fun vs H Q E h => ?_) fun cdv A outer s H vs Q E hr h => ?_)
  · obtain ⟨_, _, rfl, _⟩ := h
    rfl
  obtain ⟨a, zs, rfl, ha, z63, q⟩ := h
  have nd := sc_law_folded.nd
  refine ⟨_, pss_cons (ps_setLc (i := 2) (own := [("_law_n", 1)]) rfl nd rfl rfl (sw_true rfl rfl rfl (by decide +kernel)) (pi_range1 (by rfl) T.range (pa_cons pe_int pa_nil)) (blkOk_by (own := [("_law_n", 1)]) (N := N_law_folded) (sc := (defScope s_law_folded)) (by decide +kernel)) (fun _ _ _ _ _ => (pg_name (i := 1) nd rfl (Or.inl rfl))) (fun _ _ _ _ _ => pts_nil) (fun _ _ _ _ _ => (pe_op op_add pe_int (pv 1))))
      (pss_cons (ps_for PassesOwn.never rfl (pi_enum (by rfl) T.enumerate (pa_cons (pv 0) pa_nil)) (pg_tup rfl (pgs_cons (pg_name (i := 1) nd rfl (Or.inl rfl)) (pgs_cons (pg_name (i := 3) nd rfl (Or.inl rfl)) pgs_nil)))
      (pss_one (ps_asg (pe_op op_mod (pe_callTy call_int1 (by rfl) T.int (by decide +kernel) (pa_cons (pe_op op_add (pe_op op_mul (pe_ix ix_list (pv 2) (pe_op op_mod (pe_callTy call_int1 (by rfl) T.int (by decide +kernel) (pa_cons (pv 1) pa_nil)) pe_int) (fun _ _ => rfl)) pe_int) (pv 3)) pa_nil)) pe_int) (pg_sub (pv 2) (pe_op op_mod (pe_callTy call_int1 (by rfl) T.int (by decide +kernel) (pa_cons (pv 1) pa_nil)) pe_int) set_list))))
      (pss_cons (ps_for PassesOwn.never rfl (pi_range2 (by rfl) T.range (pa_cons pe_int (pa_cons pe_int pa_nil))) (pg_name (i := 1) nd rfl (Or.inl rfl))
      (pss_one (ps_asg (pe_op op_mod (pe_callTy call_int1 (by rfl) T.int (by decide +kernel) (pa_cons (pe_op op_add (pe_ix ix_list (pv 2) (pv 1) (fun _ _ => rfl)) (pe_op op_mul (pe_ix ix_list (pv 2) (pe_op op_sub (pv 1) pe_int) (fun _ _ => rfl)) pe_int)) pa_nil)) pe_int) (pg_sub (pv 2) (pv 1) set_list))))
      (pss_one (ps_ret (pv 2))))), ?_⟩
  have P0 : (0 : Int) < 2147483647 := by decide
  have p64 : (0 : Int) < 64 := by decide
  have sm : ∀ {i j : Int}, 0 ≤ j → j < 1000000000000 → CMul i j := fun {i j} a b => .inr ⟨by omega, by omega⟩
  refine ⟨64, rfl, by decide, by decide, fun Dl hD => lc_it walk_r0 (fun i H' => Same H H' ∧ H' Dl = some (.lst (((List.range i).map fun k : Nat => (17 + (k : Int))).map V.int))) ⟨sm_new hD, upd_same⟩ (fun _ _ _ _ => trivial) (fun i y H1 H2 hi p y1 => ?_) (fun H' p => ?_)⟩
  · obtain ⟨s1, hd⟩ := p
    obtain ⟨rfl, rfl⟩ := y1
    have hi' : i < 64 := hi
    refine ⟨rfl, yesT ⟨_, rfl, _, _, rfl, rfl, _, hd, ?_, sm_over s1 hD, ?_⟩⟩
    · rw [List.length_map, List.length_map, List.length_range]
      exact small_lt (by omega)
    · rw [upd_same, List.range_succ, List.map_append, List.map_append]
      rfl
  · obtain ⟨s1, hd⟩ := p
    have l0 : ((List.range (64 : Int).toNat).map fun k : Nat => (17 + (k : Int))).length = 64 := by
      rw [List.length_map, List.length_range]
      rfl
    have b0 : ∀ x ∈ ((List.range (64 : Int).toNat).map fun k : Nat => (17 + (k : Int))), 0 ≤ x ∧ x < 2147483647 := fun x hx => by
      obtain ⟨k, hk, rfl⟩ := List.mem_map.mp hx
      have hk' : k < 64 := List.mem_range.mp hk
      omega
    refine ⟨_, rfl, a, _, rfl, sqL_same ha s1, for_it walk_enum (fun i σ H' => Same H H' ∧ ∃ y1 y3 cs, σ = [some (.ref a), y1, some (.ref Dl), y3] ∧ H' Dl = some (.lst (cs.map V.int)) ∧ cs.length = 64 ∧ ∀ x ∈ cs, 0 ≤ x ∧ x < 2147483647)
      ⟨s1, none, none, _, rfl, hd, l0, b0⟩ (fun i σ H' _ p => sqL_same ha p.1) (fun i y σ H1 H2 hi p y1 => ?_) (fun σ H' p => ?_)⟩
    · obtain ⟨s2, y1', y3, cs, rfl, hd2, l2, b2⟩ := p
      obtain ⟨Tp, x1, x2, rfl, hT, rfl, e3, e4⟩ := y1
      rw [List.length_map] at hi
      have e3' : vN i = x1 := Option.some.inj e3
      have e4' : V.int zs[i] = x2 := by
        have z : (zs.map V.int)[i]? = some x2 := e4
        rw [List.getElem?_map, List.getElem?_eq_getElem hi] at z
        exact Option.some.inj z
      subst e3' e4'
      have s3 := sm_then (o := .tup [vN i, V.int zs[i]]) s2 hT
      have hd3 := sm_new (o := .tup [vN i, V.int zs[i]]) hT _ _ hd2
      have e64 : ((i : Nat) : Int) % 64 = (i : Int) := by omega
      have hi2 : i < cs.length := by omega
      have g1 : atI (cs.map V.int) (((i : Nat) : Int) % 64) = some (V.int cs[i]) := by
        rw [e64]
        exact atI_nat (by rw [List.getElem?_map, List.getElem?_eq_getElem hi2]; rfl)
      refine ⟨Tp, _, rfl, SqT.of upd_same, rfl, _, _, rfl, _, _, rfl, rfl, ?_⟩
      refine ⟨_, rfl, _, rfl, .inl ⟨_, rfl, _, _, rfl, rfl, p64, Dl, _, _, _, rfl, rfl, SqL.of hd3, g1, _, _, rfl, rfl, sm (by decide) (by decide), _, rfl, _, _, rfl, rfl, .inl ⟨_, rfl, _, _, rfl, rfl, P0, _, rfl, _, rfl, .inl ⟨_, rfl, _, _, rfl, rfl, p64, Dl, _, _, i, rfl, rfl, hd3, ?_, ?_⟩⟩⟩⟩
      · rw [e64]
        exact ix_nat (by rw [List.length_map]; exact hi2)
      · refine ⟨sm_over s3 hD, _, _, cs.set i ((cs[i] * 48271 + zs[i]) % 2147483647), rfl, ?_, by rw [List.length_set]; exact l2, fun x hx => ?_⟩
        · rw [upd_same, List.map_set]
        · rcases List.mem_or_eq_of_mem_set hx with h | h
          · exact b2 x h
          · rw [h]
            exact ⟨Int.emod_nonneg _ (by decide), Int.emod_lt_of_pos _ P0⟩
    · obtain ⟨s2, y1', y3, cs, rfl, hd2, l2, b2⟩ := p
      refine ⟨1, 64, rfl, ⟨by decide, by decide, by decide, by decide⟩, for_it walk_range (fun i σ H' => Same H H' ∧ ∃ y1 y3 cs, σ = [some (.ref a), y1, some (.ref Dl), y3] ∧ H' Dl = some (.lst (cs.map V.int)) ∧ cs.length = 64 ∧ ∀ x ∈ cs, 0 ≤ x ∧ x < 2147483647)
        ⟨s2, y1', y3, cs, rfl, hd2, l2, b2⟩ (fun _ _ _ _ _ => trivial) (fun i y σ H1 H2 hi p y1 => ?_) (fun σ H' p => ?_)⟩
      · obtain ⟨s2, y1', y3, cs, rfl, hd2, l2, b2⟩ := p
        obtain ⟨rfl, rfl⟩ := y1
        have hi' : i < 63 := hi
        have hi2 : i < cs.length := by omega
        have hi3 : i + 1 < cs.length := by omega
        have g1 : atI (cs.map V.int) (1 + (i : Int)) = some (V.int cs[i + 1]) := by
          rw [show (1 + (i : Int)) = ((i + 1 : Nat) : Int) by omega]
          exact atI_nat (by rw [List.getElem?_map, List.getElem?_eq_getElem hi3]; rfl)
        have g2 : atI (cs.map V.int) (1 + (i : Int) - 1) = some (V.int cs[i]) := by
          rw [show (1 + (i : Int) - 1) = ((i : Nat) : Int) by omega]
          exact atI_nat (by rw [List.getElem?_map, List.getElem?_eq_getElem hi2]; rfl)
        refine ⟨_, rfl, _, rfl, Dl, _, _, _, rfl, rfl, SqL.of hd2, g1, _, rfl, _, rfl, _, _, rfl, rfl, Dl, _, _, _, rfl, rfl, SqL.of hd2, g2, _, _, rfl, rfl, sm (by decide) (by decide), _, _, rfl, rfl, .inl ⟨_, rfl, _, _, rfl, rfl, P0, _, rfl, _, rfl, Dl, _, _, i + 1, rfl, rfl, hd2, ?_, ?_⟩⟩
        · rw [show (1 + (i : Int)) = ((i + 1 : Nat) : Int) by omega]
          exact ix_nat (by rw [List.length_map]; exact hi3)
        · refine ⟨sm_over s2 hD, _, _, cs.set (i + 1) ((cs[i + 1] + cs[i] * 16807) % 2147483647), rfl, ?_, by rw [List.length_set]; exact l2, fun x hx => ?_⟩
          · rw [upd_same, List.map_set]
          · rcases List.mem_or_eq_of_mem_set hx with h | h
            · exact b2 x h
            · rw [h]
              exact ⟨Int.emod_nonneg _ (by decide), Int.emod_lt_of_pos _ P0⟩
      · obtain ⟨s2, y1', y3, cs, rfl, hd2, l2, b2⟩ := p
        exact ⟨_, rfl, q _ Dl cs s2 hD hd2 l2 b2⟩
/-! ### _law_begun -/
def spBegun (K : PySem.W.Frag) : Sp := fun vs H Q _ => ∃ (a : Addr) (zs : List Int), vs = [.ref a] ∧ SqL K H a (zs.map V.int) ∧ zs.length ≤ 63 ∧
  ∀ (H' : Hp) (m : Addr) (g : Addr × Addr), Same H H' → DrawAt H' m g 0 → Q (.ref m) H'
theorem ok__law_begun {f : Addr} {fd : FuncData} (T : Glob mg) (D : DefAt K mg "_law_begun" s_law_begun ["_law_script"] f fd) (R_law_folded : Ready P w K mg base 1 "_law_folded" ["_law_script"] (spFolded K)) : Ready P w K mg base 2 "_law_begun" ["_law_script"] (spBegun K) := by
  refine D.ready (D.fn.ok sc_law_begun (fun vs H Q E h => ?_) fun cdv A outer s H vs Q E hr h => ?_)
  · obtain ⟨_, _, rfl, _⟩ := h
    rfl
  obtain ⟨a, zs, rfl, ha, z63, q⟩ := h
  have nd := sc_law_begun.nd
  have hu := hu_of hr
  have hr_law_folded := hr
  refine ⟨_, pss_cons (ps_set (i := 1) nd rfl (Or.inl rfl) (pe_disp (pps_cons pe_str (pe_rd R_law_folded hr_law_folded rfl (pa_cons (pv 0) pa_nil)) (pps_cons pe_str (pe_lst pa_nil) (pps_cons pe_str pe_int pps_nil))) (by rfl) (by rfl) (fun z => by cases z) (by decide)))
      (pss_cons (ps_dput hu (pv 1) pe_str (pe_lc (own := [("_law_cell", 2)]) rfl nd (pi_list (pv 0)) (blkOk_by (own := [("_law_cell", 2)]) (N := N_law_begun) (sc := (defScope s_law_begun)) (by decide +kernel)) (fun _ _ _ _ _ => (pg_name (i := 2) nd rfl (Or.inl rfl))) (fun _ _ _ _ _ => pts_nil) (fun _ _ _ _ _ => (pe_ifExp (pt_cmp (pc_ge (pv 2) (pe_op op_pow pe_int pe_int))) (pv 2) pe_int))) rfl)
      (pss_one (ps_ret (pv 1)))), ?_⟩
  refine fun p hp => ?_
  have s0 := sm_new (o := .dK []) hp
  refine ⟨_, rfl, a, zs, rfl, sqL_same ha s0, z63, fun H1 c cs s1 hc0 hc lc bc => ⟨(by decide : 0 ≤ sizeLine), fun g hg => ?_⟩⟩
  have s2 := sm_new (o := .lst []) hg
  have hp1 := s2 _ _ (s1 _ _ upd_same)
  refine ⟨hp1, [(kCells, .ref c), (kGreat, .ref g), (kSpot, vN 0)], rfl, (show 3 ≤ 15 by decide), ?_⟩
  have ncp : c ≠ p := fun e => by rw [e, upd_same] at hc0; cases hc0
  have s3 : Same H (upd (upd H1 g (.lst [])) p (.dK (mkvs c g 0))) := sm_over ((s0.trans s1).trans s2) hp
  have hp3 : (upd (upd H1 g (.lst [])) p (.dK (mkvs c g 0))) p = some (.dK (mkvs c g 0)) := upd_same
  have hc3 : (upd (upd H1 g (.lst [])) p (.dK (mkvs c g 0))) c = some (.lst (cs.map V.int)) := by
    rw [upd_ne ncp]
    exact s2 _ _ hc
  show gName 1 (V.ref p) _ (upd (upd H1 g (.lst [])) p (.dK (mkvs c g 0))) _
  generalize upd (upd H1 g (.lst [])) p (.dK (mkvs c g 0)) = H3 at s3 hp3 hc3 ⊢
  refine ⟨_, rfl, a, rfl, ⟨_, sqL_same ha s3⟩, fun Dl hD => lc_it (walk_list (xs := zs.map V.int)) (fun i H' => Same H3 H' ∧ ∃ gs : List Int, H' Dl = some (.lst (gs.map V.int)) ∧ gs.length = i) ⟨sm_new hD, [], upd_same, rfl⟩ (fun i H' _ p => sqL_same ha (s3.trans p.1)) (fun i y H4 H5 hi p4 y1 => ?_) (fun H' p4 => ?_)⟩
  · obtain ⟨s4, gs, hd, lg⟩ := p4
    obtain ⟨rfl, hy⟩ := y1
    rw [List.length_map] at hi
    have ey : V.int zs[i] = y := by
      rw [List.getElem?_map, List.getElem?_eq_getElem hi] at hy
      exact Option.some.inj hy
    subst ey
    have pw : CPow 10 18 := by refine ⟨?_, ?_, ?_⟩ <;> decide
    have lt : (gs.map V.int).length < sizeLine := by
      rw [List.length_map, lg]
      exact small_lt (by omega)
    refine ⟨rfl, yesT ⟨_, rfl, _, _, rfl, rfl, pw, _, _, rfl, rfl, _, rfl, iteD (fun h => ?_) (fun h => ?_)⟩⟩
    · refine ⟨_, rfl, _, hd, lt, sm_over s4 hD, gs ++ [zs[i]], ?_, by simp [lg]⟩
      rw [upd_same, List.map_append]
      rfl
    · refine ⟨_, hd, lt, sm_over s4 hD, gs ++ [0], ?_, by simp [lg]⟩
      rw [upd_same, List.map_append]
      rfl
  · obtain ⟨s4, gs, hd, lg⟩ := p4
    rw [List.length_map] at lg
    have hp4 := s4 _ _ hp3
    have ndp : Dl ≠ p := fun e => by rw [e, hp4] at hd; cases hd
    have ndc : c ≠ Dl := fun e => by rw [e] at hc3; rw [hc3] at hD; cases hD
    refine ⟨_, rfl, p, _, rfl, DPut.k (k := kGreat) hp4 (show 3 < sizeLine by decide), _, rfl, q _ p (Dl, c) (sm_over (s3.trans s4) hp) ⟨cs, gs, upd_same, ?_, ?_, ndc, lc, bc, by omega⟩⟩
    · rw [upd_ne ncp]
      exact s4 _ _ hc3
    · rw [upd_ne ndp]
      exact hd
/-! ### _law_draw -/
def spDraw : Sp := fun vs H Q _ => ∃ (m : Addr) (g : Addr × Addr) (n l : Nat), vs = [.ref m, vN l] ∧ DrawAt H m g n ∧ n < 100000 ∧ 1 ≤ l ∧ l ≤ 1000 ∧ ∀ H' r, Keep m g.1 H H' → DrawAt H' m g (n + 1) → r < l → Q (vN r) H'
theorem ok__law_draw {f : Addr} {fd : FuncData} (T : Glob mg) (D : DefAt K mg "_law_draw" s_law_draw ["_law_m", "_law_limit"] f fd) (R_law_mixed : Ready P w K mg base 1 "_law_mixed" ["_law_cell", "_law_n"] spMixed) : Ready P w K mg base 2 "_law_draw" ["_law_m", "_law_limit"] spDraw := by
  refine D.ready (D.fn.ok sc_law_draw (fun vs H Q E h => ?_) fun cdv A outer s H vs Q E hr h => ?_)
  · obtain ⟨_, _, _, _, rfl, _⟩ := h
    rfl
  obtain ⟨m, ⟨g, c⟩, n, l, rfl, ⟨cs, gs, hm, hc, hg, ncg, lc, bc, lg⟩, hn, l1, l2, q⟩ := h
  have nd := sc_law_draw.nd
  have hu := hu_of hr
  have hr_law_mixed := hr
  refine ⟨_, pss_cons (ps_set (i := 2) nd rfl (Or.inl rfl) (pe_dget hu (pv 0) pe_str (fun _ _ => rfl)))
      (pss_cons (ps_dput hu (pv 0) pe_str (pe_op op_add (pv 2) pe_int) rfl)
      (pss_cons (ps_if (pt_cmpR (op_neD hr.units) (pe_dget hu (pv 0) pe_str (fun _ _ => rfl)) (pe_lst pa_nil) (nomark _))
      (pss_cons (ps_set (i := 3) nd rfl (Or.inl rfl) (pe_dget hu (pv 0) pe_str (fun _ _ => rfl)))
        (pss_cons (ps_set (i := 4) nd rfl (Or.inl rfl) (pe_op op_mod (pe_callTy call_int1 (by rfl) T.int (by decide +kernel) (pa_cons (pv 2) pa_nil)) (pe_callB call_len_seq (by rfl) T.len PySem.boot_len (pa_cons (pv 3) pa_nil))))
        (pss_cons (ps_set (i := 5) nd rfl (Or.inl rfl) (pe_ix ix_list (pv 3) (pv 4) (fun _ _ => rfl)))
        (pss_one (ps_if (pt_cmp (pc_gt (pv 5) pe_int))
        (pss_cons (ps_asg (pe_op op_fdiv (pv 5) (pv 1)) (pg_sub (pv 3) (pv 4) set_list))
          (pss_one (ps_ret (pe_op op_mod (pe_callTy call_int1 (by rfl) T.int (by decide +kernel) (pa_cons (pv 5) pa_nil)) (pv 1)))))
        (pss_nil))))))
      (pss_nil))
      (pss_cons (ps_set (i := 3) nd rfl (Or.inl rfl) (pe_dget hu (pv 0) pe_str (fun _ _ => rfl)))
      (pss_one (ps_ret (pe_op op_mod (pe_callTy call_int1 (by rfl) T.int (by decide +kernel) (pa_cons (pe_rd R_law_mixed hr_law_mixed rfl (pa_cons (pe_rd R_law_mixed hr_law_mixed rfl (pa_cons (pe_op op_add (pe_ix ix_list (pv 3) (pe_op op_mod (pe_callTy call_int1 (by rfl) T.int (by decide +kernel) (pa_cons (pv 2) pa_nil)) pe_int) (fun _ _ => rfl)) (pe_op op_mul pe_int (pe_op op_fdiv (pv 2) pe_int))) (pa_cons (pv 2) pa_nil))) (pa_cons (pe_op op_add (pv 2) pe_int) pa_nil))) pa_nil)) (pv 1))))))), ?_⟩
  have nmc : m ≠ c := fun e => by rw [e, hc] at hm; cases hm
  have nmg : m ≠ g := fun e => by rw [e, hg] at hm; cases hm
  have l0 : (0 : Int) < (l : Int) := by omega
  have cd : ∀ {i : Int}, CDiv i (l : Int) := fun {i} => by constructor <;> omega
  refine ⟨_, rfl, m, _, rfl, DGet.k (k := kSpot) hm, _, rfl, _, _, rfl, rfl, _, rfl, m, _, rfl, DPut.k (k := kSpot) hm (show 3 < sizeLine by decide), ?_⟩
  have hm1 : (upd H m (.dK (mkvs c g (n + 1)))) m = some (.dK (mkvs c g (n + 1))) := upd_same
  have hc1 : (upd H m (.dK (mkvs c g (n + 1)))) c = some (.lst (cs.map V.int)) := by
    rw [upd_ne nmc.symm]
    exact hc
  have hg1 : (upd H m (.dK (mkvs c g (n + 1)))) g = some (.lst (gs.map V.int)) := by
    rw [upd_ne nmg.symm]
    exact hg
  have k1 : Keep m g H (upd H m (.dK (mkvs c g (n + 1)))) := (Keep.refl m g H).atM
  refine ⟨_, rfl, m, _, rfl, DGet.k (k := kGreat) hm1, (by decide : 0 ≤ sizeLine), fun e he => ?_⟩
  have k2 : Keep m g H (upd (upd H m (.dK (mkvs c g (n + 1)))) e (.lst [])) := k1.trans (sm_keep (sm_new he))
  have hm2 := sm_new (o := .lst []) he _ _ hm1
  have hc2 := sm_new (o := .lst []) he _ _ hc1
  have hg2 := sm_new (o := .lst []) he _ _ hg1
  have p64 : (0 : Int) < 64 := by decide
  have cd64 : CDiv ((n : Nat) : Int) 64 := by constructor <;> decide
  have sm31 : CMul 31 (((n : Nat) : Int) / 64) := .inl ⟨by decide, by decide⟩
  have hi2 : n % 64 < cs.length := by omega
  have gcell : atI (cs.map V.int) (((n : Nat) : Int) % 64) = some (V.int cs[n % 64]) := by
    rw [show ((n : Nat) : Int) % 64 = ((n % 64 : Nat) : Int) by omega]
    exact atI_nat (by rw [List.getElem?_map, List.getElem?_eq_getElem hi2]; rfl)
  have bb := bc _ (List.getElem_mem hi2)
  have cb1 : 0 ≤ cs[n % 64] + 31 * (((n : Nat) : Int) / 64) := by omega
  have cb2 : cs[n % 64] + 31 * (((n : Nat) : Int) / 64) < 2 ^ 60 := by omega
  refine rNeL (ns := gs) (ms := []) (SqL.of hg2) (SqL.of upd_same) ?_
  refine ⟨_, rfl, iteN (fun h => ?_) (fun h => ?_)⟩
  · have lpos : 0 < gs.length := List.length_pos_iff.mpr h
    have lp : (0 : Int) < (((gs.map V.int).length : Nat) : Int) := by
      rw [List.length_map]
      omega
    have ej : ((n : Nat) : Int) % (((gs.map V.int).length : Nat) : Int) = ((n % gs.length : Nat) : Int) := by rw [List.length_map, Int.natCast_emod]
    have hj : n % gs.length < gs.length := Nat.mod_lt _ lpos
    have gj : atI (gs.map V.int) (((n : Nat) : Int) % (((gs.map V.int).length : Nat) : Int)) = some (V.int gs[n % gs.length]) := by
      rw [ej]
      exact atI_nat (by rw [List.getElem?_map, List.getElem?_eq_getElem hj]; rfl)
    refine ⟨_, rfl, m, _, rfl, DGet.k (k := kGreat) hm2, ?_⟩
    refine ⟨_, rfl, .inl ⟨_, rfl, _, rfl, g, _, rfl, .inl (SqL.of hg2), _, _, rfl, rfl, lp, ?_⟩⟩
    refine ⟨_, rfl, _, rfl, g, _, _, _, rfl, rfl, SqL.of hg2, gj, ?_⟩
    refine ⟨_, rfl, _, _, rfl, rfl, _, rfl, iteD (fun h2 => ?_) (fun h2 => ?_)⟩
    · refine ⟨_, rfl, _, rfl, _, _, rfl, rfl, cd, _, rfl, _, rfl, g, _, _, n % gs.length, rfl, rfl, hg2, by rw [ej]; exact ix_nat (by rw [List.length_map]; exact hj), ?_⟩
      refine ⟨_, rfl, .inl ⟨_, rfl, _, rfl, _, _, rfl, rfl, l0, ?_⟩⟩
      have er : gs[n % gs.length] % (l : Int) = ((gs[n % gs.length] % (l : Int)).toNat : Int) := (Int.toNat_of_nonneg (Int.emod_nonneg _ (by omega))).symm
      refine in_to (Q := Q) er (q _ _ k2.atG ⟨cs, gs.set (n % gs.length) (gs[n % gs.length] / (l : Int)), ?_, ?_, ?_, ncg, lc, bc, by rw [List.length_set]; exact lg⟩ ?_)
      · rw [upd_ne nmg]
        exact hm2
      · rw [upd_ne ncg]
        exact hc2
      · rw [upd_same, List.map_set]
      · have := Int.emod_lt_of_pos gs[n % gs.length] l0
        omega
    · refine ⟨_, rfl, m, _, rfl, DGet.k (k := kCells) hm2, ?_⟩
      refine ⟨_, rfl, _, rfl, .inl ⟨_, rfl, _, _, rfl, rfl, p64, c, _, _, _, rfl, rfl, SqL.of hc2, gcell, _, rfl, _, _, rfl, rfl, cd64, _, _, rfl, rfl, sm31, _, _, rfl, rfl, _, rfl, _, n, rfl, cb1, cb2, by omega, fun r1 r10 r11 => ?_⟩⟩
      refine ⟨_, rfl, _, _, rfl, rfl, r1, n + 7, rfl, r10, Int.lt_trans r11 (by decide), by omega, fun r2 r20 r21 => .inl ⟨_, rfl, _, rfl, _, _, rfl, rfl, l0, ?_⟩⟩
      have er : r2 % (l : Int) = ((r2 % (l : Int)).toNat : Int) := (Int.toNat_of_nonneg (Int.emod_nonneg _ (by omega))).symm
      refine in_to (Q := Q) er (q _ _ k2 ⟨cs, gs, hm2, hc2, hg2, ncg, lc, bc, lg⟩ ?_)
      have := Int.emod_lt_of_pos r2 l0
      omega
  · refine ⟨_, rfl, m, _, rfl, DGet.k (k := kCells) hm2, ?_⟩
    refine ⟨_, rfl, _, rfl, .inl ⟨_, rfl, _, _, rfl, rfl, p64, c, _, _, _, rfl, rfl, SqL.of hc2, gcell, _, rfl, _, _, rfl, rfl, cd64, _, _, rfl, rfl, sm31, _, _, rfl, rfl, _, rfl, _, n, rfl, cb1, cb2, by omega, fun r1 r10 r11 => ?_⟩⟩
    refine ⟨_, rfl, _, _, rfl, rfl, r1, n + 7, rfl, r10, Int.lt_trans r11 (by decide), by omega, fun r2 r20 r21 => .inl ⟨_, rfl, _, rfl, _, _, rfl, rfl, l0, ?_⟩⟩
    have er : r2 % (l : Int) = ((r2 % (l : Int)).toNat : Int) := (Int.toNat_of_nonneg (Int.emod_nonneg _ (by omega))).symm
    refine in_to (Q := Q) er (q _ _ k2 ⟨cs, gs, hm2, hc2, hg2, ncg, lc, bc, lg⟩ ?_)
    have := Int.emod_lt_of_pos r2 l0
    omega
end
end K90
/-! drawn nets -/
namespace K90
/-- names of switches: a rearrangement of the numbers below h -/
structure Nm (h : Nat) (n : Nat → Nat) : Prop where
  lt : ∀ s, s < h → n s < h
  inj : ∀ s t, s < h → t < h → n s = n t → s = t
theorem ng_inj {o : List Nat} (nd : o.Nodup) {x y : Nat} (hx : x < o.length) (hy : y < o.length) (e : ng o x = ng o y) : x = y := by
  have e1 := ng_some hx
  have e2 := ng_some hy
  rw [e] at e1
  rw [List.getElem?_eq_getElem hx] at e1
  rw [List.getElem?_eq_getElem hy] at e2
  rw [List.nodup_iff_pairwise_ne, List.pairwise_iff_getElem] at nd
  have e3 : o[x] = o[y] := (Option.some.inj e1).trans (Option.some.inj e2).symm
  rcases Nat.lt_trichotomy x y with h | h | h
  · exact absurd e3 (nd x y hx hy h)
  · exact h
  · exact absurd e3.symm (nd y x hy hx h)
theorem nm_of {h : Nat} {o : List Nat} (p : o.Perm (List.range h)) : Nm h (ng o) := by
  have l : o.length = h := by
    rw [p.length_eq, List.length_range]
  have nd : o.Nodup := p.nodup_iff.mpr List.nodup_range
  refine ⟨fun s hs => ?_, fun s t hs ht e => ng_inj nd (by omega) (by omega) e⟩
  have m := List.mem_of_getElem? (ng_some (by omega : s < o.length))
  exact List.mem_range.mp (p.mem_iff.mp m)
theorem Nm.sur {h : Nat} {n : Nat → Nat} (N : Nm h n) {s : Nat} (hs : s < h) : ∃ t, t < h ∧ n t = s := by
  obtain ⟨t, h1, h2⟩ := List.mem_map.mp ((map_range_perm N.lt N.inj).mem_iff.mpr (List.mem_range.mpr hs))
  exact ⟨t, List.mem_range.mp h1, h2⟩
def flp (n f : Nat → Nat) (x : Nat) : Nat := 2 * n (x / 2) + (x + f (x / 2)) % 2
theorem sw_flp {h : Nat} {n : Nat → Nat} (N : Nm h n) (f : Nat → Nat) : Sw (2 * h) (flp n f) n := by
  refine ⟨fun x hx => ?_, fun x hx => ?_, fun x y hx hy e => ?_⟩
  · have := N.lt (x / 2) (by omega)
    unfold flp
    omega
  · unfold flp
    omega
  · unfold flp at e
    have e1 : n (x / 2) = n (y / 2) := by omega
    have e2 := N.inj _ _ (by omega) (by omega) e1
    rw [e2] at e
    omega
theorem Sw.sur {W : Nat} {h n : Nat → Nat} (S : Sw W h n) {x : Nat} (hx : x < W) : ∃ t, t < W ∧ h t = x := by
  obtain ⟨t, h1, h2⟩ := List.mem_map.mp ((map_range_perm S.lt S.inj).mem_iff.mpr (List.mem_range.mpr hx))
  exact ⟨t, List.mem_range.mp h1, h2⟩
/-- a drawn row d for the row p: n the names ahead of it, n' those behind it -/
def RowOk (h : Nat) (n n' : Nat → Nat) (p d : List Nat) : Prop := d.length = 2 * h ∧ ∃ f f' : Nat → Nat, ∀ x, x < 2 * h → ng d (flp n f x) = flp n' f' (ng p x)
theorem RowOk.ord {h : Nat} {n n' : Nat → Nat} {p d : List Nat} (N : Nm h n) (N' : Nm h n') (P : Ord (2 * h) p) (R : RowOk h n n' p d) : Ord (2 * h) d := by
  obtain ⟨l, f, f', r⟩ := R
  have S := sw_flp N f
  have S' := sw_flp N' f'
  refine ⟨l, ?_, fun y hy => ?_⟩
  · rw [List.nodup_iff_pairwise_ne, List.pairwise_iff_getElem]
    intro i j hi hj hij e
    obtain ⟨x, hx, ex⟩ := S.sur (x := i) (by omega)
    obtain ⟨y, hy, ey⟩ := S.sur (x := j) (by omega)
    have e1 : ng d i = ng d j := by
      have a1 := ng_some hi
      have a2 := ng_some hj
      rw [List.getElem?_eq_getElem hi] at a1
      rw [List.getElem?_eq_getElem hj] at a2
      rw [← Option.some.inj a1, ← Option.some.inj a2, e]
    rw [← ex, ← ey, r x hx, r y hy] at e1
    have e2 := S'.inj _ _ (P.ng_lt hx) (P.ng_lt hy) e1
    have e3 := ng_inj P.nd (by rw [P.len]; exact hx) (by rw [P.len]; exact hy) e2
    rw [e3] at ex
    omega
  · obtain ⟨i, hi, e⟩ := List.mem_iff_getElem.mp hy
    obtain ⟨x, hx, ex⟩ := S.sur (x := i) (by omega)
    have a1 := ng_some hi
    rw [List.getElem?_eq_getElem hi, e] at a1
    rw [Option.some.inj a1, ← ex, r x hx]
    exact S'.lt _ (P.ng_lt hx)
theorem ren_of {h : Nat} {nm : Nat → Nat → Nat} : ∀ (ps ds : List (List Nat)) (r : Nat), ps.length = ds.length → (∀ i, i ≤ ps.length → Nm h (nm (r + i))) →
    (∀ (i : Nat) (p d : List Nat), ps[i]? = some p → ds[i]? = some d → Ord (2 * h) p ∧ RowOk h (nm (r + i)) (nm (r + i + 1)) p d) → ∃ a b, Sw (2 * h) a (nm r) ∧ Sw (2 * h) b (nm (r + ps.length)) ∧ Ren (2 * h) ps ds a b
  | [], [], r, _, hn, _ => ⟨flp (nm r) (fun _ => 0), flp (nm r) (fun _ => 0), sw_flp (hn 0 (Nat.le_refl _)) _, sw_flp (hn 0 (Nat.le_refl _)) _, .nil _⟩
  | [], _ :: _, _, e, _, _ => absurd e (by simp)
  | _ :: _, [], _, e, _, _ => absurd e (by simp)
  | p :: ps, d :: ds, r, e, hn, hr => by
    obtain ⟨a', b', s1, s2, q⟩ := ren_of (h := h) (nm := nm) ps ds (r + 1) (by simpa using e) (fun i hi => by
      rw [show r + 1 + i = r + (i + 1) by omega]
      exact hn (i + 1) (by simp; omega)) fun i p' d' h1 h2 => by
      have := hr (i + 1) p' d' (by simpa using h1) (by simpa using h2)
      rw [show r + 1 + i = r + (i + 1) by omega]
      exact this
    obtain ⟨P, l, f, f', row⟩ := hr 0 p d rfl rfl
    refine ⟨flp (nm r) f, b', sw_flp (hn 0 (Nat.zero_le _)) f, ?_, .cons P s1 (fun x hx => ?_) q⟩
    · rw [List.length_cons, show r + (ps.length + 1) = r + 1 + ps.length by omega]
      exact s2
    · have e1 : ng d (flp (nm r) f x) = flp (nm (r + 1)) f' (ng p x) := row x hx
      rw [e1]
      unfold flp
      omega
/-- the halving net -/
def halv (b : Nat) : List (List Nat) := (List.range (b - 1)).map fun r => (List.range (2 ^ b)).map fun w => (2 * (w / 2 / 2 ^ (b - 1 - r)) + w % 2) * 2 ^ (b - 1 - r) + w / 2 % 2 ^ (b - 1 - r)
theorem halv_len (b : Nat) : (halv b).length = b - 1 := by simp [halv]
theorem net_of {b : Nat} {os : List (List Nat)} (h : 1 ≤ b ∧ b ≤ 4 ∧ os.length + 1 = b ∧ ∀ o ∈ os, o.length = 2 ^ b ∧ o.Nodup ∧ ∀ x ∈ o, x < 2 ^ b) : Net b os :=
  ⟨h.1, h.2.1, h.2.2.1, fun o ho => ⟨(h.2.2.2 o ho).1, (h.2.2.2 o ho).2.1, (h.2.2.2 o ho).2.2⟩⟩
theorem halv_net {b : Nat} (h1 : 1 ≤ b) (h2 : b ≤ 4) : Net b (halv b) := by
  have : b = 1 ∨ b = 2 ∨ b = 3 ∨ b = 4 := by omega
  rcases this with e | e | e | e <;> subst e <;> exact net_of (by decide +kernel)
theorem halv_ban {b : Nat} (h1 : 1 ≤ b) (h2 : b ≤ 4) : Ban b (halv b) := by
  have : b = 1 ∨ b = 2 ∨ b = 3 ∨ b = 4 := by omega
  unfold Ban
  rcases this with e | e | e | e <;> subst e <;> decide +kernel
/-- a drawn net -/
theorem drawn_ok {b : Nat} (h1 : 1 ≤ b) (h2 : b ≤ 4) {nm : Nat → Nat → Nat} {ds : List (List Nat)} (l : ds.length = b - 1) (hn : ∀ i, i < b → Nm (2 ^ (b - 1)) (nm i))
    (hr : ∀ (i : Nat) (p d : List Nat), (halv b)[i]? = some p → ds[i]? = some d → RowOk (2 ^ (b - 1)) (nm i) (nm (i + 1)) p d) : Net b ds ∧ Ban b ds := by
  have HN := halv_net h1 h2
  have ph := pow_half h1
  have hl := halv_len b
  have ordp : ∀ (i : Nat) (p : List Nat), (halv b)[i]? = some p → Ord (2 * 2 ^ (b - 1)) p := fun i p e => by
    rw [ph]
    exact HN.ord p (List.mem_of_getElem? e)
  obtain ⟨a, c, s1, s2, q⟩ := ren_of (h := 2 ^ (b - 1)) (nm := nm) (halv b) ds 0 (by omega) (fun i hi => by rw [Nat.zero_add]; exact hn i (by omega)) (fun i p d e1 e2 => by
    rw [Nat.zero_add]
    exact ⟨ordp i p e1, hr i p d e1 e2⟩)
  rw [ph] at s1 s2 q
  refine ⟨⟨h1, h2, by omega, fun d hd => ?_⟩, ban_ren h1 (halv_ban h1 h2) q s1 s2 fun s hs => (hn 0 (by omega)).sur hs⟩
  obtain ⟨i, hi, e⟩ := List.mem_iff_getElem.mp hd
  have e1 : (halv b)[i]? = some (halv b)[i] := List.getElem?_eq_getElem _
  have e2 : ds[i]? = some d := by rw [List.getElem?_eq_getElem hi, e]
  have := (hr i _ d e1 e2).ord (hn i (by omega)) (hn (i + 1) (by omega)) (ordp i _ e1)
  rw [ph] at this
  exact this
/-- the ringed net -/
def ringed : List (List Nat) := [[0, 2, 3, 4, 5, 6, 7, 1], [0, 2, 4, 6, 1, 3, 5, 7]]
theorem ringed_net : Net 3 ringed := net_of (by decide +kernel)
theorem ringed_ban : Ban 3 ringed := by
  unfold Ban
  decide +kernel
end K90
namespace K90
open PySem PySem.Spec PyProof.Rows L2
theorem cutV_to (xs : List V) (k : Nat) (h : k ≤ xs.length) : cutV xs none (some (k : Int)) = xs.take k := by
  unfold cutV
  rw [HT.sIx_nat, HT.sIx_none, Nat.min_eq_left h]
  simp
theorem ins_perm {o : List Nat} {i r : Nat} (p : o.Perm (List.range i)) : (o.take r ++ [i] ++ o.drop r).Perm (List.range (i + 1)) := by
  rw [List.range_succ, List.append_assoc]
  have h1 : (o.take r ++ ([i] ++ o.drop r)).Perm ([i] ++ o.drop r ++ o.take r) := List.perm_append_comm
  refine h1.trans ?_
  rw [List.append_assoc]
  refine (List.perm_append_comm (l₁ := [i])).trans ?_
  refine List.Perm.append_right _ ?_
  refine List.perm_append_comm.trans ?_
  rw [List.take_append_drop]
  exact p
section
variable {P : Program} {w : World} {K : PySem.W.Frag} {mg : Str → Option Value} {base : Heap}
/-! ### _law_order -/
def spOrderL : Sp := fun vs H Q _ => ∃ (m : Addr) (g : Addr × Addr) (n k : Nat), vs = [.ref m, vN k] ∧ DrawAt H m g n ∧ n < 90000 ∧ k ≤ 8 ∧
  ∀ (H' : Hp) (p : Addr) (o : List Nat), Keep m g.1 H H' → DrawAt H' m g (n + k) → H' p = some (.tup (o.map vN)) → o.Perm (List.range k) → Q (.ref p) H'
theorem ok__law_order {f : Addr} {fd : FuncData} (T : Glob mg) (D : DefAt K mg "_law_order" s_law_order ["_law_m", "_law_many"] f fd) (R_law_draw : Ready P w K mg base 2 "_law_draw" ["_law_m", "_law_limit"] spDraw) : Ready P w K mg base 3 "_law_order" ["_law_m", "_law_many"] spOrderL := by
  refine D.ready (D.fn.ok sc_law_order (fun vs H Q E h => ?_) fun cdv A outer s H vs Q E hr h => ?_)
  · obtain ⟨_, _, _, _, rfl, _⟩ := h
    rfl
  obtain ⟨m, g, n, k, rfl, d0, hn, k8, q⟩ := h
  have nd := sc_law_order.nd
  have hr_law_draw := hr
  refine ⟨_, pss_cons (ps_set (i := 2) nd rfl (Or.inl rfl) (pe_lst pa_nil))
      (pss_cons (ps_for PassesOwn.never rfl (pi_range1 (by rfl) T.range (pa_cons (pv 1) pa_nil)) (pg_name (i := 3) nd rfl (Or.inl rfl))
      (pss_cons (ps_set (i := 4) nd rfl (Or.inl rfl) (pe_rd R_law_draw hr_law_draw rfl (pa_cons (pv 0) (pa_cons (pe_op op_add (pv 3) pe_int) pa_nil))))
        (pss_one (ps_set (i := 2) nd rfl (Or.inl rfl) (pe_op op_cat (pe_op op_cat (pe_slice sl_list (pv 2) po_none (po_some (pv 4))) (pe_lst (pa_cons (pv 3) pa_nil))) (pe_slice sl_list (pv 2) (po_some (pv 4)) po_none))))))
      (pss_one (ps_ret (pe_callTy call_tuple_of (by rfl) T.tuple (by decide +kernel) (pa_cons (pv 2) pa_nil))))), ?_⟩
  refine ⟨(by decide : 0 ≤ sizeLine), fun c hc => ?_⟩
  have s0 := sm_new (o := .lst []) hc
  refine ⟨_, rfl, _, rfl, by omega, by omega, ?_⟩
  rw [Int.toNat_natCast]
  refine for_it walk_r0 (fun i σ H' => Keep m g.1 H H' ∧ DrawAt H' m g (n + i) ∧ ∃ c o y3 y4, σ = [some (.ref m), some (vN k), some (.ref c), y3, y4] ∧ H' c = some (.lst (o.map vN)) ∧ o.Perm (List.range i) ∧ Off m g c)
    ⟨sm_keep s0, d0.same s0, c, [], none, none, rfl, upd_same, List.Perm.refl _, d0.new hc⟩ (fun _ _ _ _ _ => trivial) (fun i y σ H1 H2 hi p y1 => ?_) (fun σ H' p => ?_)
  · obtain ⟨k1, d1, c, o, y3, y4, rfl, hc1, ho, off⟩ := p
    obtain ⟨rfl, rfl⟩ := y1
    have lo : o.length = i := by rw [ho.length_eq, List.length_range]
    refine ⟨_, rfl, _, rfl, _, _, rfl, rfl, m, g, n + i, i + 1, rfl, d1, by omega, by omega, by omega, fun H3 r k3 d3 hr3 => ?_⟩
    have hc3 := k3.off off hc1
    refine ⟨_, rfl, _, rfl, _, rfl, c, _, rfl, SqL.of hc3, fun p1 hp1 => ?_⟩
    have t1 := sm_new (o := .lst (cutV (o.map vN) none (some (r : Int)))) hp1
    refine ⟨_, rfl, (by decide : 1 ≤ sizeLine), fun p2 hp2 => ?_⟩
    have t2 := sm_new (o := .lst [vN i]) hp2
    have lc : (cutV (o.map vN) none (some (r : Int))).length ≤ 8 := by
      have := cutV_length (o.map vN) none (some (r : Int))
      rw [List.length_map] at this
      omega
    refine ⟨p1, p2, _, _, rfl, rfl, t2 _ _ upd_same, upd_same, small_of (by simp; omega), fun p3 hp3 => ?_⟩
    have t3 := sm_new (o := .lst (cutV (o.map vN) none (some (r : Int)) ++ [vN i])) hp3
    have t13 := (t1.trans t2).trans t3
    refine ⟨_, rfl, _, rfl, _, rfl, c, _, rfl, SqL.of (t13 _ _ hc3), fun p4 hp4 => ?_⟩
    have t4 := sm_new (o := .lst (cutV (o.map vN) (some (r : Int)) none)) hp4
    have ld : (cutV (o.map vN) (some (r : Int)) none).length ≤ 8 := by
      have := cutV_length (o.map vN) (some (r : Int)) none
      rw [List.length_map] at this
      omega
    refine ⟨p3, p4, _, _, rfl, rfl, t4 _ _ upd_same, upd_same, small_of (by simp; omega), fun p5 hp5 => ?_⟩
    have t5 := sm_new (o := .lst (cutV (o.map vN) none (some (r : Int)) ++ [vN i] ++ cutV (o.map vN) (some (r : Int)) none)) hp5
    have t15 := (t13.trans t4).trans t5
    have d5 := d3.same t15
    have np5 := (d3.same (t13.trans t4)).new hp5
    refine ⟨(k1.trans k3).trans (sm_keep t15), d5, p5, o.take r ++ [i] ++ o.drop r, _, _, rfl, ?_, ins_perm ho, np5⟩
    rw [upd_same, cutV_to _ _ (by rw [List.length_map]; omega), cutV_from, ← List.map_take, ← List.map_drop, List.map_append, List.map_append]
    rfl
  · obtain ⟨k1, d1, c, o, y3, y4, rfl, hc1, ho, off⟩ := p
    refine ⟨_, rfl, c, _, rfl, .inl ⟨SqL.of hc1, fun p hp => ?_⟩⟩
    have t1 := sm_new (o := .tup (o.map vN)) hp
    exact q _ p o (k1.trans (sm_keep t1)) (d1.same t1) upd_same ho
/-! ### _law_ringed -/
def spRinged : Sp := fun vs H Q _ => vs = [] ∧ ∀ H' v, Same H H' → NetAt H' v 3 ringed → Q v H'
theorem ok__law_ringed {f : Addr} {fd : FuncData} (D : DefAt K mg "_law_ringed" s_law_ringed [] f fd) : Ready P w K mg base 1 "_law_ringed" [] spRinged := by
  refine D.ready (D.fn.ok sc_law_ringed (fun vs H Q E h => ?_) fun cdv A outer s H vs Q E hr h => ?_)
  · obtain ⟨rfl, _⟩ := h
    rfl
  obtain ⟨rfl, q⟩ := h
  have nd := sc_law_ringed.nd
  refine ⟨_, pss_cons (ps_set (i := 0) nd rfl (Or.inl rfl) (pe_tup (pa_cons pe_int (pa_cons pe_int (pa_cons pe_int (pa_cons pe_int (pa_cons pe_int (pa_cons pe_int (pa_cons pe_int (pa_cons pe_int pa_nil))))))))))
      (pss_cons (ps_set (i := 1) nd rfl (Or.inl rfl) (pe_tup (pa_cons pe_int (pa_cons pe_int (pa_cons pe_int (pa_cons pe_int (pa_cons pe_int (pa_cons pe_int (pa_cons pe_int (pa_cons pe_int pa_nil))))))))))
      (pss_one (ps_ret (pe_tup (pa_cons pe_int (pa_cons (pe_tup (pa_cons (pv 0) (pa_cons (pv 1) pa_nil))) pa_nil)))))), ?_⟩
  refine ⟨(by decide : 8 ≤ sizeLine), fun p1 hp1 => ⟨(by decide : 8 ≤ sizeLine), fun p2 hp2 => ⟨_, rfl, _, rfl, (by decide : 2 ≤ sizeLine), fun p3 hp3 => ⟨(by decide : 2 ≤ sizeLine), fun p4 hp4 => ?_⟩⟩⟩⟩
  have t1 := sm_new (o := .tup ([0, 2, 3, 4, 5, 6, 7, 1].map vN)) hp1
  have t2 := sm_new (o := .tup ([0, 2, 4, 6, 1, 3, 5, 7].map vN)) hp2
  have t3 := sm_new (o := .tup [V.ref p1, V.ref p2]) hp3
  have t4 := sm_new (o := .tup [V.int 3, V.ref p3]) hp4
  refine q _ _ (((t1.trans t2).trans t3).trans t4) ⟨p4, p3, [V.ref p1, V.ref p2], rfl, upd_same, t4 _ _ upd_same, ?_⟩
  exact (RowsAt.one (((t2.trans t3).trans t4) _ _ upd_same)).app (RowsAt.one ((t3.trans t4) _ _ upd_same))
/-! ### _law_halving -/
def spHalving : Sp := fun vs H Q _ => ∃ b : Nat, vs = [vN b] ∧ 1 ≤ b ∧ b ≤ 4 ∧ ∀ H' v, Same H H' → NetAt H' v b (halv b) → Q v H'
theorem two_pow (k : Nat) : ((2 : Int) ^ k) = ((2 ^ k : Nat) : Int) := by simp
theorem ok__law_halving {f : Addr} {fd : FuncData} (T : Glob mg) (D : DefAt K mg "_law_halving" s_law_halving ["_law_bits"] f fd) : Ready P w K mg base 1 "_law_halving" ["_law_bits"] spHalving := by
  refine D.ready (D.fn.ok sc_law_halving (fun vs H Q E h => ?_) fun cdv A outer s H vs Q E hr h => ?_)
  · obtain ⟨_, rfl, _⟩ := h
    rfl
  obtain ⟨b, rfl, b1, b4, q⟩ := h
  have nd := sc_law_halving.nd
  have n16 := pow_le16 b4
  refine ⟨_, pss_cons (ps_set (i := 1) nd rfl (Or.inl rfl) (pe_lst pa_nil))
      (pss_cons (ps_for PassesOwn.never rfl (pi_range1 (by rfl) T.range (pa_cons (pe_op op_sub (pv 0) pe_int) pa_nil)) (pg_name (i := 2) nd rfl (Or.inl rfl))
      (pss_cons (ps_set (i := 3) nd rfl (Or.inl rfl) (pe_op op_oneShl pe_int (pe_op op_sub (pe_op op_sub (pv 0) pe_int) (pv 2))))
        (pss_cons (ps_set (i := 4) nd rfl (Or.inl rfl) (pe_lst pa_nil))
        (pss_cons (ps_for PassesOwn.never rfl (pi_range1 (by rfl) T.range (pa_cons (pe_op op_oneShl pe_int (pv 0)) pa_nil)) (pg_name (i := 5) nd rfl (Or.inl rfl))
        (pss_cons (ps_par (i := 6) (j := 7) rfl nd rfl rfl (by decide) rfl rfl (pa_cons (pe_op op_fdiv (pe_op op_fdiv (pv 5) pe_int) (pv 3)) (pa_cons (pe_op op_mod (pe_callTy call_int1 (by rfl) T.int (by decide +kernel) (pa_cons (pe_op op_fdiv (pv 5) pe_int) pa_nil)) (pv 3)) pa_nil)) (by rfl))
          (pss_one (ps_expr (pe_bm PySem.F.plainAttrs_list PySem.F.slot_list_append PySem.F.type_list_append mt_append (pv 4) (pa_cons (pe_op op_add (pe_op op_mul (pe_op op_add (pe_op op_mul pe_int (pv 6)) (pe_op op_mod (pe_callTy call_int1 (by rfl) T.int (by decide +kernel) (pa_cons (pv 5) pa_nil)) pe_int)) (pv 3)) (pv 7)) pa_nil))))))
        (pss_one (ps_expr (pe_bm PySem.F.plainAttrs_list PySem.F.slot_list_append PySem.F.type_list_append mt_append (pv 1) (pa_cons (pe_callTy call_tuple_of (by rfl) T.tuple (by decide +kernel) (pa_cons (pv 4) pa_nil)) pa_nil))))))))
      (pss_one (ps_ret (pe_tup (pa_cons (pv 0) (pa_cons (pe_callTy call_tuple_of (by rfl) T.tuple (by decide +kernel) (pa_cons (pv 1) pa_nil)) pa_nil)))))), ?_⟩
  refine ⟨(by decide : 0 ≤ sizeLine), fun c hc => ?_⟩
  have s0 := sm_new (o := .lst []) hc
  refine ⟨_, rfl, _, _, rfl, rfl, _, rfl, by omega, by omega, ?_⟩
  have eb : ((b : Int) - 1).toNat = b - 1 := by omega
  rw [eb]
  refine for_it walk_r0 (fun r σ H' => Same H H' ∧ ∃ us y2 y3 y4 y5 y6 y7, σ = [some (vN b), some (.ref c), y2, y3, y4, y5, y6, y7] ∧ H' c = some (.lst us) ∧ RowsAt H' us ((halv b).take r))
    ⟨s0, [], none, none, none, none, none, none, rfl, upd_same, RowsAt.nil _⟩ (fun _ _ _ _ _ => trivial) (fun r y σ H1 H2 hr1 p y1 => ?_) (fun σ H' p => ?_)
  · obtain ⟨s1, us, y2, y3, y4, y5, y6, y7, rfl, hc1, hus⟩ := p
    obtain ⟨rfl, rfl⟩ := y1
    have ek : ((b : Int) - 1 - (r : Int)) = ((b - 1 - r : Nat) : Int) := by omega
    refine ⟨_, rfl, _, _, rfl, rfl, _, rfl, _, _, rfl, rfl, b - 1 - r, rfl, congrArg V.int ek, by omega, ?_⟩
    show gName 3 (V.int ((2 : Int) ^ (b - 1 - r))) _ _ _
    rw [two_pow]
    have sz8 : 2 ^ (b - 1 - r) ≤ 8 := Nat.le_trans (Nat.pow_le_pow_right (by decide) (by omega : b - 1 - r ≤ 3)) (by decide)
    have sz1 : 1 ≤ 2 ^ (b - 1 - r) := Nat.one_le_two_pow
    have hrow : (halv b)[r]? = some ((List.range (2 ^ b)).map fun w => (2 * (w / 2 / 2 ^ (b - 1 - r)) + w % 2) * 2 ^ (b - 1 - r) + w / 2 % 2 ^ (b - 1 - r)) := by
      unfold halv
      rw [List.getElem?_map, List.getElem?_range hr1]
      rfl
    generalize 2 ^ (b - 1 - r) = sz at sz8 sz1 hrow ⊢
    refine ⟨(by decide : 0 ≤ sizeLine), fun d hd => ?_⟩
    have ndc : c ≠ d := ne_of_none hc1 hd
    have l61 : -(2 ^ 62 : Int) ≤ ((2 ^ b : Nat) : Int) := Int.le_trans (by decide) (Int.natCast_nonneg _)
    have u61 : ((2 ^ b : Nat) : Int) < 2 ^ 62 := Int.lt_of_le_of_lt (Int.ofNat_le.mpr n16) (by decide)
    refine ⟨_, rfl, b, rfl, rfl, by omega, ((2 ^ b : Nat) : Int), by simp, l61, u61, ?_⟩
    rw [Int.toNat_natCast]
    refine for_it walk_r0 (fun w σ H' => Same H H' ∧ H' c = some (.lst us) ∧ RowsAt H' us ((halv b).take r) ∧ ∃ y5 y6 y7, σ = [some (vN b), some (.ref c), some (vN r), some (vN sz), some (.ref d), y5, y6, y7] ∧ H' d = some (.lst (((List.range w).map fun w => (2 * (w / 2 / sz) + w % 2) * sz + w / 2 % sz).map vN)))
      ⟨sm_then s1 hd, by rw [upd_ne ndc]; exact hc1, hus.same (sm_new hd), y5, y6, y7, rfl, upd_same⟩ (fun _ _ _ _ _ => trivial) (fun w y σ H3 H4 hw p y1 => ?_) (fun σ H' p => ?_)
    · obtain ⟨s3, hc3, hus3, y5, y6, y7, rfl, hd3⟩ := p
      obtain ⟨rfl, rfl⟩ := y1
      have cd2 : CDiv ((w : Nat) : Int) 2 := by constructor <;> decide
      have cds : CDiv (((w : Nat) : Int) / 2) ((sz : Nat) : Int) := by constructor <;> omega
      have sz0 : (0 : Int) < ((sz : Nat) : Int) := by omega
      have two : (0 : Int) < 2 := by decide
      refine ⟨_, rfl, _, _, rfl, rfl, cd2, _, rfl, _, _, rfl, rfl, cds, _, rfl, _, _, rfl, rfl, cd2, .inl ⟨_, rfl, _, rfl, _, _, rfl, rfl, sz0, _, _, rfl, ?_⟩⟩
      have m1 : CMul 2 (((w : Nat) : Int) / 2 / ((sz : Nat) : Int)) := .inl ⟨by decide, by decide⟩
      have m2 : CMul (2 * (((w : Nat) : Int) / 2 / ((sz : Nat) : Int)) + ((w : Nat) : Int) % 2) ((sz : Nat) : Int) := .inr ⟨by omega, by omega⟩
      refine ⟨_, rfl, .inl ⟨rfl, _, SqL.of hd3⟩, _, rfl, _, _, rfl, rfl, m1, _, rfl, .inl ⟨_, rfl, _, _, rfl, rfl, two, _, _, rfl, rfl, _, rfl, _, _, rfl, rfl, m2, _, rfl, _, _, rfl, rfl, d, _, _, rfl, rfl, hd3, ?_, ?_⟩⟩
      · rw [List.length_map, List.length_map, List.length_range]
        exact small_lt (by omega)
      · refine ⟨sm_over s3 (s1.free hd), by rw [upd_ne ndc]; exact hc3, hus3.mono fun z u e => ?_, _, _, _, rfl, ?_⟩
        · rw [upd_ne fun e5 => ?_]
          · exact e
          · rw [e5, hd3] at e
            cases e
        · rw [upd_same, List.range_succ, List.map_append, List.map_append]
          have ev : (2 * (((w : Nat) : Int) / 2 / ((sz : Nat) : Int)) + ((w : Nat) : Int) % 2) * ((sz : Nat) : Int) + ((w : Nat) : Int) / 2 % ((sz : Nat) : Int) = (((2 * (w / 2 / sz) + w % 2) * sz + w / 2 % sz : Nat) : Int) := by
            push_cast
            rfl
          show some (HO.lst (_ ++ [V.int ((2 * (((w : Nat) : Int) / 2 / ((sz : Nat) : Int)) + ((w : Nat) : Int) % 2) * ((sz : Nat) : Int) + ((w : Nat) : Int) / 2 % ((sz : Nat) : Int))])) = _
          rw [ev]
          rfl
    · obtain ⟨s3, hc3, hus3, y5, y6, y7, rfl, hd3⟩ := p
      have lus : us.length ≤ 10 := by
        rw [hus3.1, List.length_take]
        omega
      refine ⟨_, rfl, .inl ⟨rfl, _, SqL.of hc3⟩, _, rfl, d, _, rfl, .inl ⟨SqL.of hd3, fun p hp => ?_⟩⟩
      have t1 := sm_new (o := .tup (((List.range (2 ^ b)).map fun w => (2 * (w / 2 / sz) + w % 2) * sz + w / 2 % sz).map vN)) hp
      have hc4 := t1 _ _ hc3
      refine ⟨c, us, _, rfl, rfl, hc4, small_lt (by omega), sm_over (s3.trans t1) hc, us ++ [V.ref p], _, _, _, _, _, _, rfl, upd_same, ?_⟩
      rw [List.take_add_one, hrow]
      have up : ∀ (H5 : Hp) (z : Addr) (l : List V) (xs : List V), H5 c = some (.lst us) → H5 z = some (.tup l) → (upd H5 c (.lst xs)) z = some (.tup l) := fun H5 z l xs e0 e => by
        rw [upd_ne fun e5 => ?_]
        · exact e
        · rw [e5, e0] at e
          cases e
      exact ((hus3.same t1).mono fun z u e => up _ _ _ _ hc4 e).snoc (up _ _ _ _ hc4 upd_same)
  · obtain ⟨s1, us, y2, y3, y4, y5, y6, y7, rfl, hc1, hus⟩ := p
    rw [List.take_of_length_le (by rw [halv_len]; omega)] at hus
    refine ⟨_, rfl, _, rfl, c, _, rfl, .inl ⟨SqL.of hc1, fun o ho => ⟨(by decide : 2 ≤ sizeLine), fun a ha => ?_⟩⟩⟩
    have t1 := sm_new (o := .tup us) ho
    have t2 := sm_new (o := .tup [vN b, V.ref o]) ha
    exact q _ _ ((s1.trans t1).trans t2) ⟨a, o, us, rfl, upd_same, t2 _ _ upd_same, hus.same (t1.trans t2)⟩
end
end K90
namespace K90
open PySem PySem.Spec PyProof.Rows L2
/-- what stands goes on, over a list that is written -/
theorem tup_over {H : Hp} {c z : Addr} {l : List V} {o : HO} (h : ∀ l, H c ≠ some (.tup l)) (e : H z = some (.tup l)) : (upd H c o) z = some (.tup l) := by
  rw [upd_ne fun e5 => ?_]
  · exact e
  · rw [e5] at e
    exact h _ e
theorem not_tup {H : Hp} {c : Addr} {us : List V} (h : H c = some (.lst us)) : ∀ l, H c ≠ some (.tup l) := fun l e => by
  rw [h] at e
  cases e
theorem flp_cast (o f : List Nat) (x : Nat) : (2 : Int) * ((ng o (x / 2) : Nat) : Int) + (((x : Nat) : Int) + ((ng f (x / 2) : Nat) : Int)) % 2 = ((flp (ng o) (ng f) x : Nat) : Int) := by
  unfold flp
  omega
theorem at_half {l : List Nat} {x : Nat} (h : x / 2 < l.length) : atI (l.map vN) (((x : Nat) : Int) / 2) = some (vN (ng l (x / 2))) := by
  rw [show ((x : Nat) : Int) / 2 = ((x / 2 : Nat) : Int) by omega]
  exact at_map h
theorem Keep.free {H H' : Hp} {m a : Addr} {g : Addr × Addr} (k : Keep m g.1 H H') (n : Off m g a) (h : H' a = none) : H a = none := by
  cases e : H a with
  | none => rfl
  | some o =>
    rw [k.off n e] at h
    cases h
section
variable {P : Program} {w : World} {K : PySem.W.Frag} {mg : Str → Option Value} {base : Heap}
def spBanyan : Sp := fun vs H Q _ => ∃ (m : Addr) (g : Addr × Addr) (n b : Nat), vs = [.ref m, vN b] ∧ DrawAt H m g n ∧ n < 50000 ∧ 1 ≤ b ∧ b ≤ 3 ∧
  ∀ (H' : Hp) (v : V) (os : List (List Nat)) (k : Nat), Keep m g.1 H H' → DrawAt H' m g k → k ≤ n + 100 → NetAt H' v b os → Net b os → Ban b os → Q v H'
theorem ok__law_banyan {f : Addr} {fd : FuncData} (T : Glob mg) (D : DefAt K mg "_law_banyan" s_law_banyan ["_law_m", "_law_bits"] f fd) (R_law_draw : Ready P w K mg base 2 "_law_draw" ["_law_m", "_law_limit"] spDraw)
    (R_law_order : Ready P w K mg base 3 "_law_order" ["_law_m", "_law_many"] spOrderL) (R_law_halving : Ready P w K mg base 1 "_law_halving" ["_law_bits"] spHalving) : Ready P w K mg base 4 "_law_banyan" ["_law_m", "_law_bits"] spBanyan := by
  refine D.ready (D.fn.ok sc_law_banyan (fun vs H Q E h => ?_) fun cdv A outer s H vs Q E hr h => ?_)
  · obtain ⟨_, _, _, _, rfl, _⟩ := h
    rfl
  obtain ⟨m, g, n, b, rfl, d0, hn, b1, b3, q⟩ := h
  have nd := sc_law_banyan.nd
  have hu := hu_of hr
  have hr_law_order := hr
  have hr_law_draw := hr.mono (by decide : 2 ≤ 3)
  have hr_law_halving := hr.mono (by decide : 1 ≤ 3)
  have HN := halv_net b1 (by omega : b ≤ 4)
  have ph := pow_half b1
  have h4 : 2 ^ (b - 1) ≤ 4 := Nat.le_trans (Nat.pow_le_pow_right (by decide) (by omega : b - 1 ≤ 2)) (by decide)
  refine ⟨_, pss_cons (ps_asg (pe_tup (pa_cons (pe_rd R_law_halving hr_law_halving rfl (pa_cons (pv 1) pa_nil)) (pa_cons (pe_op op_oneShl pe_int (pe_op op_sub (pv 1) pe_int)) pa_nil))) (pg_tup rfl (pgs_cons (pg_name (i := 2) nd rfl (Or.inl rfl)) (pgs_cons (pg_name (i := 3) nd rfl (Or.inr rfl)) pgs_nil))))
      (pss_cons (ps_setLc (i := 5) (own := [("_law_row", 4)]) rfl nd rfl rfl (sw_true rfl rfl rfl (by decide +kernel)) (pi_range1 (by rfl) T.range (pa_cons (pv 1) pa_nil)) (blkOk_by (own := [("_law_row", 4)]) (N := N_law_banyan) (sc := (defScope s_law_banyan)) (by decide +kernel)) (fun _ _ _ _ _ => (pg_name (i := 4) nd rfl (Or.inl rfl))) (fun _ _ _ _ _ => pts_nil) (fun _ _ _ _ _ => (pe_rd R_law_order hr_law_order rfl (pa_cons (pv 0) (pa_cons (pv 3) pa_nil)))))
      (pss_cons (ps_set (i := 6) nd rfl (Or.inl rfl) (pe_lst pa_nil))
      (pss_cons (ps_for PassesOwn.never rfl (pi_range1 (by rfl) T.range (pa_cons (pe_op op_sub (pv 1) pe_int) pa_nil)) (pg_name (i := 4) nd rfl (Or.inl rfl))
      (pss_cons (ps_par (i := 7) (j := 8) rfl nd rfl rfl (by decide) rfl rfl (pa_cons (pe_lc (own := [("_law_k", 15)]) rfl nd (pi_range1 (by rfl) T.range (pa_cons (pv 3) pa_nil)) (blkOk_by (own := [("_law_k", 15)]) (N := N_law_banyan) (sc := (defScope s_law_banyan)) (by decide +kernel)) (fun _ _ _ _ _ => (pg_name (i := 15) nd rfl (Or.inl rfl))) (fun _ _ _ _ _ => pts_nil) (fun _ _ _ _ _ => (pe_rd R_law_draw hr_law_draw rfl (pa_cons (pv 0) (pa_cons pe_int pa_nil))))) (pa_cons (pe_lc (own := [("_law_k", 15)]) rfl nd (pi_range1 (by rfl) T.range (pa_cons (pv 3) pa_nil)) (blkOk_by (own := [("_law_k", 15)]) (N := N_law_banyan) (sc := (defScope s_law_banyan)) (by decide +kernel)) (fun _ _ _ _ _ => (pg_name (i := 15) nd rfl (Or.inl rfl))) (fun _ _ _ _ _ => pts_nil) (fun _ _ _ _ _ => (pe_rd R_law_draw hr_law_draw rfl (pa_cons (pv 0) (pa_cons pe_int pa_nil))))) pa_nil)) (by rfl))
        (pss_cons (ps_set (i := 9) nd rfl (Or.inr rfl) pe_dnewK)
        (pss_cons (ps_for PassesOwn.never rfl (pi_enumT (by rfl) T.enumerate (pa_cons (pe_ix ix_tup (pe_ix ix_tup (pv 2) pe_int (fun _ _ => rfl)) (pv 4) (fun _ _ => rfl)) pa_nil)) (pg_tup rfl (pgs_cons (pg_name (i := 10) nd rfl (Or.inl rfl)) (pgs_cons (pg_name (i := 11) nd rfl (Or.inl rfl)) pgs_nil)))
        (pss_cons (ps_par (i := 12) (j := 13) rfl nd rfl rfl (by decide) rfl rfl (pa_cons (pe_op op_fdiv (pv 10) pe_int) (pa_cons (pe_op op_fdiv (pv 11) pe_int) pa_nil)) (by rfl))
          (pss_cons (ps_set (i := 14) nd rfl (Or.inl rfl) (pe_op op_add (pe_op op_mul pe_int (pe_ix ix_tup (pe_ix ix_list (pv 5) (pv 4) (fun _ _ => rfl)) (pv 12) (fun _ _ => rfl))) (pe_op op_mod (pe_op op_add (pe_callTy call_int1 (by rfl) T.int (by decide +kernel) (pa_cons (pv 10) pa_nil)) (pe_ix ix_list (pv 7) (pv 12) (fun _ _ => rfl))) pe_int)))
          (pss_one (ps_dput hu (pv 9) (pv 14) (pe_op op_add (pe_op op_mul pe_int (pe_ix ix_tup (pe_ix ix_list (pv 5) (pe_op op_add (pv 4) pe_int) (fun _ _ => rfl)) (pv 13) (fun _ _ => rfl))) (pe_op op_mod (pe_op op_add (pe_callTy call_int1 (by rfl) T.int (by decide +kernel) (pa_cons (pv 11) pa_nil)) (pe_ix ix_list (pv 8) (pv 13) (fun _ _ => rfl))) pe_int)) rfl)))))
        (pss_one (ps_expr (pe_bm PySem.F.plainAttrs_list PySem.F.slot_list_append PySem.F.type_list_append mt_append (pv 6) (pa_cons (pe_callTy call_tuple_of (by rfl) T.tuple (by decide +kernel) (pa_cons (pe_lc (own := [("_law_wire", 10)]) rfl nd (pi_range1 (by rfl) T.range (pa_cons (pe_op op_mul pe_int (pv 3)) pa_nil)) (blkOk_by (own := [("_law_wire", 10)]) (N := N_law_banyan) (sc := (defScope s_law_banyan)) (by decide +kernel)) (fun _ _ _ _ _ => (pg_name (i := 10) nd rfl (Or.inl rfl))) (fun _ _ _ _ _ => pts_nil) (fun _ _ _ _ _ => (pe_dget hu (pv 9) (pv 10) (fun _ _ => rfl)))) pa_nil)) pa_nil))))))))
      (pss_one (ps_ret (pe_tup (pa_cons (pv 1) (pa_cons (pe_callTy call_tuple_of (by rfl) T.tuple (by decide +kernel) (pa_cons (pv 6) pa_nil)) pa_nil)))))))), ?_⟩
  refine ⟨_, rfl, b, rfl, b1, by omega, fun H1 v s1 n1 => ?_⟩
  have ek : ((b : Int) - 1) = ((b - 1 : Nat) : Int) := by omega
  refine ⟨_, rfl, _, _, rfl, rfl, b - 1, rfl, congrArg V.int ek, by omega, (by decide : 2 ≤ sizeLine), fun tp htp => ?_⟩
  rw [two_pow]
  refine ⟨tp, [v, vN (2 ^ (b - 1))], rfl, SqT.of upd_same, rfl, _, _, rfl, _, _, rfl, rfl, ?_⟩
  have s2 := s1.trans (sm_new (o := .tup [v, vN (2 ^ (b - 1))]) htp)
  have n2 := n1.same (sm_new (o := .tup [v, vN (2 ^ (b - 1))]) htp)
  have d2 := d0.same s2
  generalize upd H1 tp (.tup [v, vN (2 ^ (b - 1))]) = H2 at s2 n2 d2 ⊢
  have hdef : ∃ h, h = 2 ^ (b - 1) := ⟨_, rfl⟩
  obtain ⟨h, eh⟩ := hdef
  rw [← eh] at h4 ph ⊢
  refine ⟨_, rfl, _, rfl, by omega, by omega, ?_⟩
  rw [Int.toNat_natCast]
  refine fun Dl hD => lc_it walk_r0 (fun i H' => Keep m g.1 H2 H' ∧ (∃ k, k ≤ n + i * 4 ∧ DrawAt H' m g k) ∧ ∃ us ls, H' Dl = some (.lst us) ∧ RowsAt H' us ls ∧ ls.length = i ∧ ∀ o ∈ ls, o.Perm (List.range h))
    ⟨sm_keep (sm_new hD), ⟨n, by omega, d2.same (sm_new hD)⟩, [], [], upd_same, RowsAt.nil _, rfl, fun _ z => nomatch z⟩ (fun _ _ _ _ => trivial) (fun i y H3 H4 hi p y1 => ?_) (fun H3 p => ?_)
  · obtain ⟨k3, ⟨k, hk, d3⟩, us, ls, hd, hus, ll, hls⟩ := p
    obtain ⟨rfl, rfl⟩ := y1
    have nD := d2.new hD
    refine ⟨rfl, yesT ⟨_, rfl, _, rfl, m, g, k, h, rfl, d3, by omega, by omega, fun H5 p o k5 d5 hp ho => ?_⟩⟩
    have hd5 := k5.off nD hd
    refine ⟨us, hd5, small_lt (by rw [hus.1]; omega), Keep.over (k3.trans k5) hD, ⟨k + h, by omega, d5.upd nD⟩, us ++ [V.ref p], ls ++ [o], upd_same, ?_, by simp [ll], fun o' ho' => ?_⟩
    · exact ((hus.mono fun z l e => k5.tup d3 e).mono fun z l e => tup_over (not_tup hd5) e).snoc (tup_over (not_tup hd5) hp)
    · rcases List.mem_append.mp ho' with z | z
      · exact hls _ z
      · rw [List.mem_singleton.mp z]
        exact ho
  obtain ⟨k3, ⟨k, hk, d3⟩, us, ls, hD3, hus, ll, hls⟩ := p
  have nD := d2.new hD
  refine ⟨(by decide : 0 ≤ sizeLine), fun c hc => ?_⟩
  have t3 := sm_new (o := .lst []) hc
  have nc := d3.new hc
  have hc2 : H2 c = none := k3.free nc hc
  have nDc : Dl ≠ c := ne_of_none hD3 hc
  refine ⟨_, rfl, _, _, rfl, rfl, _, rfl, by omega, by omega, ?_⟩
  have eb : ((b : Int) - 1).toNat = b - 1 := by omega
  rw [eb]
  refine for_it walk_r0 (fun r σ H' => Keep m g.1 H2 H' ∧ (∃ k, k ≤ n + 12 + r * 8 ∧ DrawAt H' m g k) ∧ H' Dl = some (.lst us) ∧ RowsAt H' us ls ∧ ∃ ws ds y4 y7 y8 y9 y10 y11 y12 y13 y14 y15, σ = [some (.ref m), some (vN b), some v, some (vN h), y4, some (.ref Dl), some (.ref c), y7, y8, y9, y10, y11, y12, y13, y14, y15] ∧ H' c = some (.lst ws) ∧ RowsAt H' ws ds ∧ ds.length = r ∧
      ∀ (i : Nat) (p d : List Nat), (halv b)[i]? = some p → ds[i]? = some d → RowOk h (ng (ls.getD i [])) (ng (ls.getD (i + 1) [])) p d)
    ⟨k3.trans (sm_keep t3), ⟨k, by omega, d3.same t3⟩, t3 _ _ hD3, hus.same t3, [], [], none, none, none, none, none, none, none, none, none, none, rfl, upd_same, RowsAt.nil _, rfl, fun i p d _ e => by simp at e⟩ (fun _ _ _ _ _ => trivial) (fun r y σ H4 H5 hr1 p y1 => ?_) (fun σ H' p => ?_)
  · obtain ⟨k4, ⟨k, hk, d4⟩, hD4, hus4, ws, ds, y4, y7, y8, y9, y10, y11, y12, y13, y14, y15, rfl, hc4, hws4, lds, hds⟩ := p
    obtain ⟨rfl, rfl⟩ := y1
    refine ⟨_, rfl, _, rfl, by omega, by omega, ?_⟩
    rw [Int.toNat_natCast]
    refine fun D7 hD7 => lc_it walk_r0 (fun i H' => Keep m g.1 H5 H' ∧ DrawAt H' m g (k + i) ∧ ∃ xs : List Nat, H' D7 = some (.lst (xs.map vN)) ∧ xs.length = i)
      ⟨sm_keep (sm_new hD7), d4.same (sm_new hD7), [], upd_same, rfl⟩ (fun _ _ _ _ => trivial) (fun i y H6 H7 hi p y1 => ?_) (fun H7 p => ?_)
    · obtain ⟨k6, d6, xs, hd6, lx⟩ := p
      obtain ⟨rfl, rfl⟩ := y1
      have n7 := d4.new hD7
      refine ⟨rfl, yesT ⟨_, rfl, m, g, k + i, 2, rfl, d6, by omega, by omega, by omega, fun H8 x k8 d8 hx => ?_⟩⟩
      have hd8 := k8.off n7 hd6
      refine ⟨_, hd8, small_lt (by rw [List.length_map]; omega), Keep.over (k6.trans k8) hD7, d8.upd n7, xs ++ [x], ?_, by simp [lx]⟩
      rw [upd_same, List.map_append]
      rfl
    obtain ⟨k7, d7, nr, hnr, lnr⟩ := p
    have n7 := d4.new hD7
    refine ⟨_, rfl, _, rfl, by omega, by omega, ?_⟩
    rw [Int.toNat_natCast]
    refine fun D8 hD8 => lc_it walk_r0 (fun i H' => Keep m g.1 H7 H' ∧ DrawAt H' m g (k + h + i) ∧ ∃ xs : List Nat, H' D8 = some (.lst (xs.map vN)) ∧ xs.length = i)
      ⟨sm_keep (sm_new hD8), d7.same (sm_new hD8), [], upd_same, rfl⟩ (fun _ _ _ _ => trivial) (fun i y H6 H8 hi p y1 => ?_) (fun H8 p => ?_)
    · obtain ⟨k6, d6, xs, hd6, lx⟩ := p
      obtain ⟨rfl, rfl⟩ := y1
      have n8 := d7.new hD8
      refine ⟨rfl, yesT ⟨_, rfl, m, g, k + h + i, 2, rfl, d6, by omega, by omega, by omega, fun H9 x k8 d8 hx => ?_⟩⟩
      have hd8 := k8.off n8 hd6
      refine ⟨_, hd8, small_lt (by rw [List.length_map]; omega), Keep.over (k6.trans k8) hD8, d8.upd n8, xs ++ [x], ?_, by simp [lx]⟩
      rw [upd_same, List.map_append]
      rfl
    obtain ⟨k8, d8, fr, hfr, lfr⟩ := p
    have n8 := d7.new hD8
    have hnr8 := k8.off n7 hnr
    have hD8' := k8.off nD (k7.off nD hD4)
    have hc8 := k8.off nc (k7.off nc hc4)
    have hus8 : RowsAt H8 us ls := (hus4.mono fun z l e => k7.tup d4 e).mono fun z l e => k8.tup d7 e
    have hws8 : RowsAt H8 ws ds := (hws4.mono fun z l e => k7.tup d4 e).mono fun z l e => k8.tup d7 e
    have k28 : Keep m g.1 H2 H8 := (k4.trans k7).trans k8
    refine ⟨_, _, rfl, fun t ht => ?_⟩
    obtain ⟨a, o, vs, rfl, ha, ho, hvs⟩ := n2.mono fun z l e => k28.tup d2 e
    have s9 := sm_new (o := .dK []) ht
    have lvs : vs.length = b - 1 := by rw [hvs.1, halv_len]
    obtain ⟨pp, p, g1, g2, g3⟩ := hvs.get (i := r) (by rw [halv_len]; omega)
    have oP := HN.ord p (List.mem_of_getElem? g2)
    obtain ⟨pn, nm, f1, f2, f3⟩ := hus8.get (i := r) (by omega)
    obtain ⟨pm, nm', f4, f5, f6⟩ := hus8.get (i := r + 1) (by omega)
    have N1 := nm_of (hls nm (List.mem_of_getElem? f2))
    have N2 := nm_of (hls nm' (List.mem_of_getElem? f5))
    have lnm : nm.length = h := by rw [(hls nm (List.mem_of_getElem? f2)).length_eq, List.length_range]
    have lnm' : nm'.length = h := by rw [(hls nm' (List.mem_of_getElem? f5)).length_eq, List.length_range]
    refine ⟨_, rfl, a, _, 1, _, rfl, rfl, SqT.of (s9 _ _ ha), atI_nat (j := 1) rfl, _, rfl, o, _, _, _, rfl, rfl, SqT.of (s9 _ _ ho), atI_nat g1, pp, _, rfl, SqT.of (s9 _ _ g3), ?_⟩
    refine for_it walk_enumT (fun x σ H' => Same H8 H' ∧ ∃ kvs y10 y11 y12 y13 y14, σ = [some (.ref m), some (vN b), some (.ref a), some (vN h), some (vN r), some (.ref Dl), some (.ref c), some (.ref D7), some (.ref D8), some (.ref t), y10, y11, y12, y13, y14, y15] ∧ H' t = some (.dK kvs) ∧ kvs.length ≤ x ∧
        ∀ w, w < x → valV kvs (.inl ((flp (ng nm) (ng nr) w : Nat) : Int)) = some (vN (flp (ng nm') (ng fr) (ng p w))))
      ⟨s9, [], y10, y11, y12, y13, y14, rfl, upd_same, Nat.le_refl _, fun w z => absurd z (Nat.not_lt_zero _)⟩ (fun x σ H' _ p => SqT.of (p.1 _ _ g3)) (fun x y σ H9 H10 hx p y1 => ?_) (fun σ H' p => ?_)
    · obtain ⟨s10, kvs, y10, y11, y12, y13, y14, rfl, ht10, lk, hk10⟩ := p
      obtain ⟨Tp, x1, x2, rfl, hT, rfl, e3, e4⟩ := y1
      rw [List.length_map, oP.len, ← ph] at hx
      have hx' : x < 2 ^ b := by omega
      have e3' : vN x = x1 := Option.some.inj e3
      have e4' : vN (ng p x) = x2 := by
        have z : (p.map vN)[x]? = some x2 := e4
        rw [List.getElem?_map, ng_some (by rw [oP.len]; exact hx')] at z
        exact Option.some.inj z
      subst e3' e4'
      have s11 := sm_then (o := .tup [vN x, vN (ng p x)]) s10 hT
      have ht11 := sm_new (o := .tup [vN x, vN (ng p x)]) hT _ _ ht10
      have pl1 : ng p x < 2 ^ b := oP.ng_lt hx'
      have two : (0 : Int) < 2 := by decide
      have cd1 : CDiv ((x : Nat) : Int) 2 := by constructor <;> decide
      have cd2 : CDiv ((ng p x : Nat) : Int) 2 := by constructor <;> decide
      have m1 : CMul 2 ((ng nm (x / 2) : Nat) : Int) := .inl ⟨by decide, by decide⟩
      have m2 : CMul 2 ((ng nm' (ng p x / 2) : Nat) : Int) := .inl ⟨by decide, by decide⟩
      refine ⟨Tp, _, rfl, SqT.of upd_same, rfl, _, _, rfl, _, _, rfl, rfl, ?_⟩
      refine ⟨_, rfl, _, _, rfl, rfl, cd1, _, rfl, _, _, rfl, rfl, cd2, _, _, rfl, ?_⟩
      refine ⟨_, rfl, _, rfl, Dl, _, _, _, rfl, rfl, SqL.of (s11 _ _ hD8'), atI_nat f1, _, rfl, pn, _, _, _, rfl, rfl, SqT.of (s11 _ _ f3), at_half (by omega), _, _, rfl, rfl, m1, _, rfl, .inl ⟨_, rfl, _, rfl, _, rfl, D7, _, _, _, rfl, rfl, SqL.of (s11 _ _ hnr8), at_half (by omega), _, _, rfl, rfl, _, _, rfl, rfl, two, _, _, rfl, rfl, ?_⟩⟩
      show gName 14 (V.int ((2 : Int) * ((ng nm (x / 2) : Nat) : Int) + (((x : Nat) : Int) + ((ng nr (x / 2) : Nat) : Int)) % 2)) _ _ _
      rw [flp_cast]
      refine ⟨_, rfl, _, rfl, _, _, rfl, rfl, Dl, _, _, _, rfl, rfl, SqL.of (s11 _ _ hD8'), atI_nat (j := r + 1) f4, _, rfl, pm, _, _, _, rfl, rfl, SqT.of (s11 _ _ f6), at_half (by omega), _, _, rfl, rfl, m2, _, rfl, .inl ⟨_, rfl, _, rfl, _, rfl, D8, _, _, _, rfl, rfl, SqL.of (s11 _ _ hfr), at_half (by omega), _, _, rfl, rfl, _, _, rfl, rfl, two, _, _, rfl, rfl, ?_⟩⟩
      refine ⟨_, rfl, _, rfl, t, _, rfl, DPut.k (k := .inl ((flp (ng nm) (ng nr) x : Nat) : Int)) ht11 (small_lt (by omega)), ?_⟩
      refine ⟨sm_over s11 ht, _, _, _, _, _, _, rfl, upd_same, Nat.le_trans (length_putK ..) (by omega), fun w hw => ?_⟩
      rw [valV_put]
      have S := sw_flp N1 (ng nr)
      by_cases e : w = x
      · subst e
        rw [if_pos rfl]
        exact congrArg some (congrArg V.int (flp_cast nm' fr (ng p w)))
      · rw [if_neg fun z => e (S.inj _ _ (by omega) hx (by
          have z' := Sum.inl.inj z
          omega))]
        exact hk10 w (by omega)
    · obtain ⟨s10, kvs, y10, y11, y12, y13, y14, rfl, ht10, lk, hk10⟩ := p
      rw [List.length_map, oP.len, ← ph] at lk hk10
      have S := sw_flp N1 (ng nr)
      have m3 : CMul 2 ((h : Nat) : Int) := .inl ⟨by decide, by decide⟩
      have hc10 := s10 _ _ hc8
      refine ⟨_, rfl, .inl ⟨rfl, _, SqL.of hc10⟩, _, rfl, _, _, rfl, rfl, m3, _, rfl, by omega, by omega, ?_⟩
      have e2h : ((2 : Int) * ((h : Nat) : Int)).toNat = 2 * h := by omega
      rw [e2h]
      refine fun D2 hD2 => lc_it walk_r0 (fun x H' => Same H' H' ∧ Same H8 H' ∧ H' t = some (.dK kvs) ∧ ∃ d : List Nat, H' D2 = some (.lst (d.map vN)) ∧ d.length = x ∧ ∀ w, w < 2 * h → flp (ng nm) (ng nr) w < x → d[flp (ng nm) (ng nr) w]? = some (flp (ng nm') (ng fr) (ng p w)))
        ⟨Same.refl _, sm_then s10 hD2, sm_new hD2 _ _ ht10, [], upd_same, rfl, fun w _ z => absurd z (Nat.not_lt_zero _)⟩ (fun _ _ _ _ => trivial) (fun x y H11 H12 hx p y1 => ?_) (fun H11 p => ?_)
      · obtain ⟨_, s11, ht11, d, hd11, ld, hd⟩ := p
        obtain ⟨rfl, rfl⟩ := y1
        obtain ⟨w, hw, ew⟩ := S.sur hx
        have hv := hk10 w hw
        rw [ew] at hv
        have dg := DGet.k (k := .inl ((x : Nat) : Int)) ht11
        rw [hv] at dg
        have ndt : D2 ≠ t := fun e => by rw [e, ht11] at hd11; cases hd11
        refine ⟨rfl, yesT ⟨_, rfl, _, rfl, t, _, rfl, dg, _, hd11, small_lt (by rw [List.length_map]; omega), Same.refl _, sm_over s11 (s10.free hD2), ?_, d ++ [flp (ng nm') (ng fr) (ng p w)], ?_, by simp [ld], fun w' hw' hx' => ?_⟩⟩
        · rw [upd_ne ndt.symm]
          exact ht11
        · rw [upd_same, List.map_append]
          rfl
        · by_cases e : flp (ng nm) (ng nr) w' = x
          · have ee : w' = w := S.inj _ _ hw' hw (by rw [e, ew])
            rw [ee, ew, List.getElem?_append_right (by omega), ld, Nat.sub_self]
            rfl
          · rw [List.getElem?_append_left (by omega)]
            exact hd w' hw' (by omega)
      · obtain ⟨_, s11, ht11, d, hd11, ld, hd⟩ := p
        refine ⟨D2, _, rfl, .inl ⟨SqL.of hd11, fun pr hpr => ?_⟩⟩
        have t12 := sm_new (o := .tup (d.map vN)) hpr
        have hc12 := t12 _ _ (s11 _ _ hc8)
        have nt := not_tup hc12
        have lws : ws.length ≤ 10 := by
          rw [hws8.1]
          omega
        refine ⟨c, ws, _, rfl, rfl, hc12, small_lt (by omega), Keep.over (k28.trans (sm_keep (s11.trans t12))) hc2, ⟨k + h + h, by omega, ?_⟩, ?_, ?_, ws ++ [V.ref pr], ds ++ [d], _, _, _, _, _, _, _, _, _, _, rfl, upd_same, ?_, by simp [lds], fun i p' d' e1 e2 => ?_⟩
        · exact ((d8.same s11).same t12).upd nc
        · rw [upd_ne nDc]
          exact t12 _ _ (s11 _ _ hD8')
        · exact ((hus8.same s11).same t12).mono fun z l e => tup_over nt e
        · exact (((hws8.same s11).same t12).mono fun z l e => tup_over nt e).snoc (tup_over nt upd_same)
        · rcases Nat.lt_or_ge i r with z | z
          · rw [List.getElem?_append_left (by omega)] at e2
            exact hds i p' d' e1 e2
          · rw [List.getElem?_append_right (by omega)] at e2
            have ei : i = r := by
              rcases Nat.lt_or_ge (i - ds.length) 1 with z2 | z2
              · omega
              · rw [List.getElem?_eq_none (by simpa using z2)] at e2
                cases e2
            subst ei
            rw [lds, Nat.sub_self] at e2
            have ed : d = d' := Option.some.inj e2
            have ep : p = p' := Option.some.inj (g2.symm.trans e1)
            subst ed ep
            have en1 : ls.getD i [] = nm := by rw [List.getD_eq_getElem?_getD, f2]; rfl
            have en2 : ls.getD (i + 1) [] = nm' := by rw [List.getD_eq_getElem?_getD, f5]; rfl
            rw [en1, en2]
            refine ⟨ld, ng nr, ng fr, fun x hx => ?_⟩
            have hlt := S.lt x hx
            have e5 := hd x hx hlt
            rw [ng_some (by omega)] at e5
            exact Option.some.inj e5
  · obtain ⟨k4, ⟨k, hk, d4⟩, hD4, hus4, ws, ds, y4, y7, y8, y9, y10, y11, y12, y13, y14, y15, rfl, hc4, hws4, lds, hds⟩ := p
    refine ⟨_, rfl, _, rfl, c, _, rfl, .inl ⟨SqL.of hc4, fun o ho => ⟨(by decide : 2 ≤ sizeLine), fun a ha => ?_⟩⟩⟩
    have t1 := sm_new (o := .tup ws) ho
    have t2 := sm_new (o := .tup [vN b, V.ref o]) ha
    have ok := drawn_ok b1 (by omega) (nm := fun i => ng (ls.getD i [])) lds (fun i hi => by
      rw [← eh]
      refine nm_of (hls _ ?_)
      rw [List.getD_eq_getElem?_getD, List.getElem?_eq_getElem (by omega)]
      exact List.getElem_mem _) (fun i p d e1 e2 => by rw [← eh]; exact hds i p d e1 e2)
    exact q _ _ ds k (((sm_keep s2).trans k4).trans (sm_keep (t1.trans t2))) (d4.same (t1.trans t2)) (by omega) ⟨a, o, ws, rfl, upd_same, t2 _ _ upd_same, hws4.same (t1.trans t2)⟩ ok.1 ok.2
end
end K90
namespace K90
open PySem PySem.Spec PyProof.Rows L2
def ki (p : Nat × Nat) : Key × V := (.inl (p.1 : Int), vN p.2)
def ko (p : Nat × Nat) : Key × V := (.inl (p.2 : Int), vN p.1)
/-- demands: all ins differ, all outs differ, all are wires -/
structure Dem (W : Nat) (ds : List (Nat × Nat)) : Prop where
  ins : (ds.map (·.1)).Nodup
  outs : (ds.map (·.2)).Nodup
  all : ∀ p ∈ ds, p ∈ allPairs W
theorem Dem.perm {W : Nat} {ds es : List (Nat × Nat)} (d : Dem W ds) (h : es.Perm ds) : Dem W es :=
  ⟨(h.map _).nodup_iff.mpr d.ins, (h.map _).nodup_iff.mpr d.outs, fun p hp => d.all p (h.mem_iff.mp hp)⟩
theorem rows_paired {H : Hp} : ∀ {ts : List Addr} {ds : List (Nat × Nat)}, Paired (fun (t : Addr) (q : Key × V) => H t = some (.tup [kV q.1, q.2])) ts (ds.map ki) → RowsAt H (ts.map V.ref) (ds.map pl)
  | [], [], _ => RowsAt.nil H
  | [], _ :: _, h => nomatch h
  | _ :: _, [], h => nomatch h
  | t :: ts, d :: ds, .cons h r => (RowsAt.one (l := pl d) h).app (rows_paired r)
def un (l : List Nat) : Nat × Nat := (ng l 0, ng l 1)
theorem un_pl (p : Nat × Nat) : un (pl p) = p := rfl
theorem rows_back {ks : List (List Nat)} {ds : List (Nat × Nat)} (h : ks.Perm (ds.map pl)) : (ks.map un).map pl = ks ∧ (ks.map un).Perm ds := by
  constructor
  · rw [List.map_map]
    refine (List.map_congr_left fun k hk => ?_).trans (List.map_id _)
    obtain ⟨p, _, e⟩ := List.mem_map.mp (h.mem_iff.mp hk)
    subst e
    rfl
  · have := h.map un
    rw [List.map_map] at this
    exact this.trans (List.Perm.of_eq ((List.map_congr_left fun p _ => rfl).trans (List.map_id _)))
section
variable {P : Program} {w : World} {K : PySem.W.Frag} {mg : Str → Option Value} {base : Heap}
def spDemands : Sp := fun vs H Q _ => ∃ (m : Addr) (g : Addr × Addr) (n k b : Nat) (v : V) (os : List (List Nat)), vs = [.ref m, v, vN k] ∧ DrawAt H m g n ∧ n < 50000 ∧ k ≤ 10 ∧ NetAt H v b os ∧ Net b os ∧
  ∀ (H' : Hp) (tt : Addr) (ws : List V) (ds : List (Nat × Nat)), Keep m g.1 H H' → DrawAt H' m g (n + 2 * k) → H' tt = some (.tup ws) → RowsAt H' ws (ds.map pl) → Dem (2 ^ b) ds → ds.length ≤ k → Q (.ref tt) H'
theorem ok__law_demands {f : Addr} {fd : FuncData} (T : Glob mg) (D : DefAt K mg "_law_demands" s_law_demands ["_law_m", "_law_net", "_law_tries"] f fd) (R_law_draw : Ready P w K mg base 2 "_law_draw" ["_law_m", "_law_limit"] spDraw) : Ready P w K mg base 3 "_law_demands" ["_law_m", "_law_net", "_law_tries"] spDemands := by
  refine D.ready (D.fn.ok sc_law_demands (fun vs H Q E h => ?_) fun cdv A outer s H vs Q E hr h => ?_)
  · obtain ⟨_, _, _, _, _, _, _, rfl, _⟩ := h
    rfl
  obtain ⟨m, g, n, k, b, v, os, rfl, d0, hn, k10, n0, N, q⟩ := h
  have nd := sc_law_demands.nd
  have hu := hu_of hr
  have hr_law_draw := hr
  have n4 := N.hi
  have n16 := pow_le16 n4
  have p1 : 1 ≤ 2 ^ b := Nat.one_le_two_pow
  obtain ⟨a, o, vs', rfl, ha, ho, hvs⟩ := n0
  refine ⟨_, pss_cons (ps_par (i := 3) (j := 4) rfl nd rfl rfl (by decide) rfl rfl (pa_cons pe_dnewK (pa_cons pe_dnewK pa_nil)) (by rfl))
      (pss_cons (ps_for PassesOwn.never rfl (pi_range1 (by rfl) T.range (pa_cons (pv 2) pa_nil)) (pg_name (i := 5) nd rfl (Or.inl rfl))
      (pss_cons (ps_par (i := 6) (j := 7) rfl nd rfl rfl (by decide) rfl rfl (pa_cons (pe_rd R_law_draw hr_law_draw rfl (pa_cons (pv 0) (pa_cons (pe_op op_oneShl pe_int (pe_ix ix_tup (pv 1) pe_int (fun _ _ => rfl))) pa_nil))) (pa_cons (pe_rd R_law_draw hr_law_draw rfl (pa_cons (pv 0) (pa_cons (pe_op op_oneShl pe_int (pe_ix ix_tup (pv 1) pe_int (fun _ _ => rfl))) pa_nil))) pa_nil)) (by rfl))
        (pss_one (ps_if (PW.pt (pw_and (pt_cmp (pc_dnotin hu (pv 6) (pv 3))) (pw_and1 (pt_cmp (pc_dnotin hu (pv 7) (pv 4))))))
        (pss_cons (ps_dput hu (pv 3) (pv 6) (pv 7) rfl)
          (pss_one (ps_dput hu (pv 4) (pv 7) (pv 6) rfl)))
        (pss_nil)))))
      (pss_one (ps_ret (pe_callTy call_tuple_of (by rfl) T.tuple (by decide +kernel) (pa_cons (pe_callB cr_sortedPO (by rfl) T.sorted (by decide +kernel) (pa_cons (LiI.pe_listItems rfl (pv 3) (by rfl) T.list (by decide +kernel)) pa_nil)) pa_nil))))), ?_⟩
  refine fun di hdi => fun dq hdq => ⟨_, _, rfl, ?_⟩
  have t1 := sm_new (o := .dK []) hdi
  have t2 := sm_new (o := .dK []) hdq
  have ndd : di ≠ dq := fun e => by rw [← e, upd_same] at hdq; cases hdq
  have hdq0 : H dq = none := t1.free hdq
  have oi := d0.new hdi
  have oq := d0.new hdq0
  refine ⟨_, rfl, _, rfl, by omega, by omega, ?_⟩
  rw [Int.toNat_natCast]
  refine for_it walk_r0 (fun i σ H' => Keep m g.1 H H' ∧ DrawAt H' m g (n + 2 * i) ∧ ∃ ds y5 y6 y7, σ = [some (.ref m), some (.ref a), some (vN k), some (.ref di), some (.ref dq), y5, y6, y7] ∧ H' di = some (.dK (ds.map ki)) ∧ H' dq = some (.dK (ds.map ko)) ∧ Dem (2 ^ b) ds ∧ ds.length ≤ i)
    ⟨sm_keep (t1.trans t2), d0.same (t1.trans t2), [], none, none, none, rfl, t2 _ _ upd_same, upd_same, ⟨List.nodup_nil, List.nodup_nil, fun _ z => nomatch z⟩, Nat.le_refl _⟩ (fun _ _ _ _ _ => trivial) (fun i y σ H1 H2 hi p y1 => ?_) (fun σ H' p => ?_)
  · obtain ⟨k1, d1, ds, y5, y6, y7, rfl, hi1, hq1, dm, ld⟩ := p
    obtain ⟨rfl, rfl⟩ := y1
    refine ⟨_, rfl, _, rfl, a, _, 0, _, rfl, rfl, SqT.of (k1.tup d0 ha), atI_nat (j := 0) rfl, b, rfl, rfl, by omega, m, g, n + 2 * i, 2 ^ b, (by rw [two_pow]; rfl), d1, by omega, p1, by omega, fun H3 x k3 d3 hx => ?_⟩
    have k13 := k1.trans k3
    refine ⟨_, rfl, _, rfl, a, _, 0, _, rfl, rfl, SqT.of (k13.tup d0 ha), atI_nat (j := 0) rfl, b, rfl, rfl, by omega, m, g, n + 2 * i + 1, 2 ^ b, (by rw [two_pow]; rfl), d3, by omega, p1, by omega, fun H4 y k4 d4 hy => ?_⟩
    have k14 := k13.trans k4
    have hi4 := k4.off oi (k3.off oi hi1)
    have hq4 := k4.off oq (k3.off oq hq1)
    have dgi := DGet.k (k := .inl ((x : Nat) : Int)) hi4
    have dgq := DGet.k (k := .inl ((y : Nat) : Int)) hq4
    refine ⟨_, _, rfl, _, rfl, _, rfl, di, _, rfl, dgi, _, rfl, ?_⟩
    cases hv : valV (ds.map ki) (.inl ((x : Nat) : Int)) with
    | some z => exact iteF ⟨k14, d4, ds, _, _, _, rfl, hi4, hq4, dm, by omega⟩
    | none =>
      refine iteT ⟨_, rfl, _, rfl, dq, _, rfl, dgq, _, rfl, ?_⟩
      cases hv2 : valV (ds.map ko) (.inl ((y : Nat) : Int)) with
      | some z => exact iteF ⟨k14, d4, ds, _, _, _, rfl, hi4, hq4, dm, by omega⟩
      | none =>
        have l1 : (ds.map ki).length < sizeLine := by
          rw [List.length_map]
          exact small_lt (by omega)
        have l2 : (ds.map ko).length < sizeLine := by
          rw [List.length_map]
          exact small_lt (by omega)
        refine iteT ⟨_, rfl, _, rfl, _, rfl, di, _, rfl, DPut.k (k := .inl ((x : Nat) : Int)) hi4 l1, ?_⟩
        have hq5 : (upd H4 di (.dK (putK (ds.map ki) (.inl ((x : Nat) : Int)) (vN y)))) dq = some (.dK (ds.map ko)) := by
          rw [upd_ne ndd.symm]
          exact hq4
        refine ⟨_, rfl, _, rfl, _, rfl, dq, _, rfl, DPut.k (k := .inl ((y : Nat) : Int)) hq5 l2, ?_⟩
        refine ⟨Keep.over (Keep.over k14 hdi) hdq0, (d4.upd oi).upd oq, ds ++ [(x, y)], _, _, _, rfl, ?_, ?_, ⟨?_, ?_, fun p hp => ?_⟩, by rw [List.length_append]; simp; omega⟩
        · rw [upd_ne ndd, upd_same, putK_new _ hv, List.map_append]
          rfl
        · rw [upd_same, putK_new _ hv2, List.map_append]
          rfl
        · rw [List.map_append]
          refine nd_snoc dm.ins fun z => valV_not hv ?_
          obtain ⟨p, h1, h2⟩ := List.mem_map.mp z
          rw [List.map_map]
          exact List.mem_map.mpr ⟨p, h1, by show (Sum.inl ((p.1 : Nat) : Int) : Key) = _; rw [h2]⟩
        · rw [List.map_append]
          refine nd_snoc dm.outs fun z => valV_not hv2 ?_
          obtain ⟨p, h1, h2⟩ := List.mem_map.mp z
          rw [List.map_map]
          exact List.mem_map.mpr ⟨p, h1, by show (Sum.inl ((p.2 : Nat) : Int) : Key) = _; rw [h2]⟩
        · rcases List.mem_append.mp hp with z | z
          · exact dm.all p z
          · rw [List.mem_singleton.mp z]
            exact mem_allPairs.mpr ⟨hx, hy⟩
  · obtain ⟨k1, d1, ds, y5, y6, y7, rfl, hi1, hq1, dm, ld⟩ := p
    refine ⟨_, rfl, di, _, rfl, hi1, fun H4 p ts s4 hp hts hpts hpl hpr => ?_⟩
    have rr := rows_paired hpr
    refine ⟨p, ts.map V.ref, ik H4, rfl, SqL.of hpl, fun x hx => ?_, fun ys r hs hst hr' => ?_⟩
    · obtain ⟨l, hl, t, rfl, ht⟩ := rr.mem hx
      obtain ⟨pp, _, rfl⟩ := List.mem_map.mp hl
      refine ⟨t, rfl, ?_⟩
      rw [ik_at (a := (pp.1 : Int)) (b := (pp.2 : Int)) ht]
      exact ht
    · refine ⟨r, ys, rfl, .inl ⟨SqL.of upd_same, fun tt htt => ?_⟩⟩
      obtain ⟨ks, r1, r2⟩ := rr.perm hst.perm
      obtain ⟨b1, b2⟩ := rows_back r2
      have t5 := sm_new (o := .lst ys) hr'
      have t6 := sm_new (o := .tup ys) htt
      refine q _ tt ys (ks.map un) (k1.trans (sm_keep ((Same.trans s4 t5).trans t6))) (((d1.same s4).same t5).same t6) upd_same ?_ (dm.perm b2) (by rw [b2.length_eq]; exact ld)
      rw [b1]
      exact (r1.same t5).same t6
end
end K90
/-! the law's own nets -/
namespace K90
theorem foldl_perm : ∀ (os : List (List Nat)) {a b : List Nat}, a.Perm b → (os.foldl (fun c o => stepE o c) a).Perm (os.foldl (fun c o => stepE o c) b)
  | [], _, _, h => h
  | o :: os, _, _, h => foldl_perm os (stepE_perm o h)
theorem swap_ok {b x y : Nat} {r : List Nat} {os : List (List Nat)} (N : Net b ((x :: y :: r) :: os)) (B : Ban b ((x :: y :: r) :: os)) : Net b ((y :: x :: r) :: os) ∧ Ban b ((y :: x :: r) :: os) := by
  have O := N.ord _ List.mem_cons_self
  have pm : (y :: x :: r).Perm (x :: y :: r) := List.Perm.swap ..
  refine ⟨⟨N.lo, N.hi, by simpa using N.rows, fun o ho => ?_⟩, fun s hs => ?_⟩
  · rcases List.mem_cons.mp ho with e | e
    · subst e
      exact ⟨by simpa using O.len, pm.nodup_iff.mpr O.nd, fun z hz => O.lt z (pm.mem_iff.mp hz)⟩
    · exact N.ord o (List.mem_cons_of_mem _ e)
  · refine List.Perm.trans ?_ (B s hs)
    unfold endsF
    rw [List.foldl_cons, List.foldl_cons]
    refine foldl_perm os ?_
    match s with
    | 0 =>
      show (nxt (y :: x :: r) 0 ++ (nxt (y :: x :: r) 1 ++ [])).Perm (nxt (x :: y :: r) 0 ++ (nxt (x :: y :: r) 1 ++ []))
      rw [List.append_nil, List.append_nil]
      exact List.perm_append_comm
    | s + 1 => exact List.Perm.refl _
theorem parting_congr {W : Nat} {f g f' g' : Nat × Nat → List Nat} (h : ∀ p ∈ allPairs W, f p = f' p) (h' : ∀ p ∈ allPairs W, g p = g' p) : parting W f g = parting W f' g' := by
  have e : ∀ p ∈ allPairs W, ((allPairs W).filter (beyond p)).find? (partsAt f g p) = ((allPairs W).filter (beyond p)).find? (partsAt f' g' p) := fun p hp => by
    have : ∀ l : List (Nat × Nat), (∀ q ∈ l, q ∈ allPairs W) → l.find? (partsAt f g p) = l.find? (partsAt f' g' p) := by
      intro l
      induction l with
      | nil => exact fun _ => rfl
      | cons q l ih =>
        intro hl
        have hq := hl q List.mem_cons_self
        rw [List.find?_cons, List.find?_cons, ih fun z hz => hl z (List.mem_cons_of_mem _ hz)]
        have : partsAt f g p q = partsAt f' g' p q := by
          unfold partsAt
          rw [h p hp, h q hq, h' p hp, h' q hq]
        rw [this]
    exact this _ fun q hq => (List.mem_filter.mp hq).1
  have key : ∀ l : List (Nat × Nat), (∀ q ∈ l, q ∈ allPairs W) → (l.findSome? fun p => (((allPairs W).filter (beyond p)).find? (partsAt f g p)).map fun q => (p, q)) = l.findSome? fun p => (((allPairs W).filter (beyond p)).find? (partsAt f' g' p)).map fun q => (p, q) := by
    intro l
    induction l with
    | nil => exact fun _ => rfl
    | cons q l ih =>
      intro hl
      rw [List.findSome?_cons, List.findSome?_cons, ih fun z hz => hl z (List.mem_cons_of_mem _ hz), e q (hl q List.mem_cons_self)]
  exact key _ fun q hq => hq
theorem parting_self (W : Nat) (f : Nat × Nat → List Nat) : parting W f f = none := by
  unfold parting
  refine List.findSome?_eq_none_iff.mpr fun p _ => ?_
  rw [Option.map_eq_none_iff]
  refine List.find?_eq_none.mpr fun q _ => ?_
  unfold partsAt
  simp
def T4a : List (List (List Nat)) := [[[0, 0, 0, 0], [0, 0, 0, 1], [0, 0, 1, 2], [0, 0, 1, 3], [0, 1, 4, 4], [0, 1, 4, 5], [0, 1, 5, 6], [0, 1, 5, 7], [1, 8, 8, 8], [1, 8, 8, 9], [1, 8, 9, 10], [1, 8, 9, 11], [1, 9, 12, 12], [1, 9, 12, 13], [1, 9, 13, 14], [1, 9, 13, 15]], [[2, 0, 0, 0], [2, 0, 0, 1], [2, 0, 1, 2], [2, 0, 1, 3], [2, 1, 4, 4], [2, 1, 4, 5], [2, 1, 5, 6], [2, 1, 5, 7], [3, 8, 8, 8], [3, 8, 8, 9], [3, 8, 9, 10], [3, 8, 9, 11], [3, 9, 12, 12], [3, 9, 12, 13], [3, 9, 13, 14], [3, 9, 13, 15]], [[4, 2, 0, 0], [4, 2, 0, 1], [4, 2, 1, 2], [4, 2, 1, 3], [4, 3, 4, 4], [4, 3, 4, 5], [4, 3, 5, 6], [4, 3, 5, 7], [5, 10, 8, 8], [5, 10, 8, 9], [5, 10, 9, 10], [5, 10, 9, 11], [5, 11, 12, 12], [5, 11, 12, 13], [5, 11, 13, 14], [5, 11, 13, 15]], [[6, 2, 0, 0], [6, 2, 0, 1], [6, 2, 1, 2], [6, 2, 1, 3], [6, 3, 4, 4], [6, 3, 4, 5], [6, 3, 5, 6], [6, 3, 5, 7], [7, 10, 8, 8], [7, 10, 8, 9], [7, 10, 9, 10], [7, 10, 9, 11], [7, 11, 12, 12], [7, 11, 12, 13], [7, 11, 13, 14], [7, 11, 13, 15]], [[8, 4, 2, 0], [8, 4, 2, 1], [8, 4, 3, 2], [8, 4, 3, 3], [8, 5, 6, 4], [8, 5, 6, 5], [8, 5, 7, 6], [8, 5, 7, 7], [9, 12, 10, 8], [9, 12, 10, 9], [9, 12, 11, 10], [9, 12, 11, 11], [9, 13, 14, 12], [9, 13, 14, 13], [9, 13, 15, 14], [9, 13, 15, 15]], [[10, 4, 2, 0], [10, 4, 2, 1], [10, 4, 3, 2], [10, 4, 3, 3], [10, 5, 6, 4], [10, 5, 6, 5], [10, 5, 7, 6], [10, 5, 7, 7], [11, 12, 10, 8], [11, 12, 10, 9], [11, 12, 11, 10], [11, 12, 11, 11], [11, 13, 14, 12], [11, 13, 14, 13], [11, 13, 15, 14], [11, 13, 15, 15]], [[12, 6, 2, 0], [12, 6, 2, 1], [12, 6, 3, 2], [12, 6, 3, 3], [12, 7, 6, 4], [12, 7, 6, 5], [12, 7, 7, 6], [12, 7, 7, 7], [13, 14, 10, 8], [13, 14, 10, 9], [13, 14, 11, 10], [13, 14, 11, 11], [13, 15, 14, 12], [13, 15, 14, 13], [13, 15, 15, 14], [13, 15, 15, 15]], [[14, 6, 2, 0], [14, 6, 2, 1], [14, 6, 3, 2], [14, 6, 3, 3], [14, 7, 6, 4], [14, 7, 6, 5], [14, 7, 7, 6], [14, 7, 7, 7], [15, 14, 10, 8], [15, 14, 10, 9], [15, 14, 11, 10], [15, 14, 11, 11], [15, 15, 14, 12], [15, 15, 14, 13], [15, 15, 15, 14], [15, 15, 15, 15]]]
def T4b : List (List (List Nat)) := [[[0, 0, 0, 0], [0, 0, 0, 1], [0, 0, 1, 2], [0, 0, 1, 3], [0, 1, 4, 4], [0, 1, 4, 5], [0, 1, 5, 6], [0, 1, 5, 7], [1, 8, 8, 8], [1, 8, 8, 9], [1, 8, 9, 10], [1, 8, 9, 11], [1, 9, 12, 12], [1, 9, 12, 13], [1, 9, 13, 14], [1, 9, 13, 15]], [[2, 0, 0, 0], [2, 0, 0, 1], [2, 0, 1, 2], [2, 0, 1, 3], [2, 1, 4, 4], [2, 1, 4, 5], [2, 1, 5, 6], [2, 1, 5, 7], [3, 8, 8, 8], [3, 8, 8, 9], [3, 8, 9, 10], [3, 8, 9, 11], [3, 9, 12, 12], [3, 9, 12, 13], [3, 9, 13, 14], [3, 9, 13, 15]], [[4, 2, 0, 0], [4, 2, 0, 1], [4, 2, 1, 2], [4, 2, 1, 3], [4, 3, 4, 4], [4, 3, 4, 5], [4, 3, 5, 6], [4, 3, 5, 7], [5, 10, 8, 8], [5, 10, 8, 9], [5, 10, 9, 10], [5, 10, 9, 11], [5, 11, 12, 12], [5, 11, 12, 13], [5, 11, 13, 14], [5, 11, 13, 15]], [[6, 2, 0, 0], [6, 2, 0, 1], [6, 2, 1, 2], [6, 2, 1, 3], [6, 3, 4, 4], [6, 3, 4, 5], [6, 3, 5, 6], [6, 3, 5, 7], [7, 10, 8, 8], [7, 10, 8, 9], [7, 10, 9, 10], [7, 10, 9, 11], [7, 11, 12, 12], [7, 11, 12, 13], [7, 11, 13, 14], [7, 11, 13, 15]], [[8, 4, 2, 0], [8, 4, 2, 1], [8, 4, 3, 2], [8, 4, 3, 3], [8, 5, 6, 4], [8, 5, 6, 5], [8, 5, 7, 6], [8, 5, 7, 7], [9, 12, 10, 8], [9, 12, 10, 9], [9, 12, 11, 10], [9, 12, 11, 11], [9, 13, 14, 12], [9, 13, 14, 13], [9, 13, 15, 14], [9, 13, 15, 15]], [[10, 6, 2, 0], [10, 6, 2, 1], [10, 6, 3, 2], [10, 6, 3, 3], [10, 7, 6, 4], [10, 7, 6, 5], [10, 7, 7, 6], [10, 7, 7, 7], [11, 12, 10, 8], [11, 12, 10, 9], [11, 12, 11, 10], [11, 12, 11, 11], [11, 13, 14, 12], [11, 13, 14, 13], [11, 13, 15, 14], [11, 13, 15, 15]], [[12, 4, 2, 0], [12, 4, 2, 1], [12, 4, 3, 2], [12, 4, 3, 3], [12, 5, 6, 4], [12, 5, 6, 5], [12, 5, 7, 6], [12, 5, 7, 7], [13, 14, 10, 8], [13, 14, 10, 9], [13, 14, 11, 10], [13, 14, 11, 11], [13, 15, 14, 12], [13, 15, 14, 13], [13, 15, 15, 14], [13, 15, 15, 15]], [[14, 6, 2, 0], [14, 6, 2, 1], [14, 6, 3, 2], [14, 6, 3, 3], [14, 7, 6, 4], [14, 7, 6, 5], [14, 7, 7, 6], [14, 7, 7, 7], [15, 14, 10, 8], [15, 14, 10, 9], [15, 14, 11, 10], [15, 14, 11, 11], [15, 15, 14, 12], [15, 15, 14, 13], [15, 15, 15, 14], [15, 15, 15, 15]]]
/-- the first row -/
def ng2 (os : List (List Nat)) : List Nat := os.headD []
def look (T : List (List (List Nat))) (p : Nat × Nat) : List Nat := (T.getD (p.1 / 2) []).getD p.2 []
/-- the law's other net of four bits -/
def fourO : List (List Nat) := ((ng2 (halv 4)).set 10 6).set 12 5 :: (halv 4).tail
theorem fourO_net : Net 4 fourO := net_of (by decide +kernel)
theorem fourO_ban : Ban 4 fourO := by
  unfold Ban
  decide +kernel
theorem four_a : ∀ p ∈ allPairs 16, way (halv 4) p = look T4a p := by decide +kernel
theorem four_b : ∀ p ∈ allPairs 16, way fourO p = look T4b p := by decide +kernel
theorem four_look : parting 16 (look T4a) (look T4b) = some ((8, 0), (10, 2)) := by decide +kernel
theorem four_parting : parting (2 ^ 4) (way (halv 4)) (way fourO) = some ((8, 0), (10, 2)) := (parting_congr four_a four_b).trans four_look
theorem ring_parting : parting (2 ^ 3) (way (halv 3)) (way ringed) = some ((0, 0), (2, 1)) := by decide +kernel
end K90
namespace K90
open PySem PySem.Spec PyProof.Rows L2
/-! ### data that is small -/
structure Okd (d : PyData) (n k : Nat) : Prop where
  sh : d.showable = true
  nd : d.hasDict = false
  lf : d.leavesShort 8 = true
  dp : d.depth ≤ n
  bk : d.bulk ≤ k
structure OkAll (ds : List PyData) (n k : Nat) : Prop where
  sh : PyData.showableAll ds = true
  nd : PyData.hasDictAll ds = false
  lf : PyData.leavesShortAll 8 ds = true
  dp : PyData.depthAll ds ≤ n
  bk : PyData.bulkAll ds ≤ k
theorem OkAll.nil (n k : Nat) : OkAll [] n k := ⟨rfl, rfl, rfl, Nat.zero_le _, Nat.zero_le _⟩
theorem OkAll.cons {d : PyData} {ds : List PyData} {n k j : Nat} (h : Okd d n k) (r : OkAll ds n j) : OkAll (d :: ds) n (k + 1 + j) :=
  ⟨by rw [PyData.showableAll, h.sh, r.sh]; rfl, by rw [PyData.hasDictAll, h.nd, r.nd]; rfl, by rw [PyData.leavesShortAll, h.lf, r.lf]; rfl, by rw [PyData.depthAll]; exact Nat.max_le.mpr ⟨h.dp, r.dp⟩, by
    rw [PyData.bulkAll]
    have := h.bk
    have := r.bk
    omega⟩
theorem OkAll.lst {ds : List PyData} {n k : Nat} (h : OkAll ds n k) : Okd (.list ds) (n + 1) k := ⟨by rw [PyData.showable]; exact h.sh, by rw [PyData.hasDict]; exact h.nd, by rw [PyData.leavesShort]; exact h.lf, by rw [PyData.depth]; exact Nat.succ_le_succ h.dp, by rw [PyData.bulk]; exact h.bk⟩
theorem OkAll.tup {ds : List PyData} {n k : Nat} (h : OkAll ds n k) : Okd (.tuple ds) (n + 1) k := ⟨by rw [PyData.showable]; exact h.sh, by rw [PyData.hasDict]; exact h.nd, by rw [PyData.leavesShort]; exact h.lf, by rw [PyData.depth]; exact Nat.succ_le_succ h.dp, by rw [PyData.bulk]; exact h.bk⟩
theorem Okd.mono {d : PyData} {n k n' k' : Nat} (h : Okd d n k) (h1 : n ≤ n') (h2 : k ≤ k') : Okd d n' k' := ⟨h.sh, h.nd, h.lf, Nat.le_trans h.dp h1, Nat.le_trans h.bk h2⟩
theorem OkAll.mono {d : List PyData} {n k n' k' : Nat} (h : OkAll d n k) (h1 : n ≤ n') (h2 : k ≤ k') : OkAll d n' k' := ⟨h.sh, h.nd, h.lf, Nat.le_trans h.dp h1, Nat.le_trans h.bk h2⟩
theorem okd_non (n : Nat) : Okd .none n 0 := ⟨rfl, rfl, rfl, Nat.zero_le _, Nat.zero_le _⟩
theorem okd_bl (b : Bool) (n : Nat) : Okd (.bool b) n 0 := ⟨rfl, rfl, rfl, Nat.zero_le _, Nat.zero_le _⟩
theorem okd_int {x : Nat} (h : x < 1000) (n : Nat) : Okd (.int (x : Int)) n 0 := by
  refine ⟨?_, rfl, ?_, Nat.zero_le _, Nat.zero_le _⟩
  · rw [PyData.showable, decide_eq_true_iff, Int.natAbs_natCast]
    by_cases e : x = 0
    · subst e
      decide
    · exact (Nat.log2_lt e).mpr (Nat.lt_of_lt_of_le h (Nat.le_trans (by decide : 1000 ≤ 2 ^ 10) (Nat.pow_le_pow_right (by decide) (by decide))))
  · rw [PyData.leavesShort, decide_eq_true_iff]
    have : (PyData.shown (.int (x : Int))) = Str.ofString (toString (x : Int)) := rfl
    rw [this]
    exact toString_length_le (by omega) (by decide) (by omega)
theorem okd_shown {d : PyData} {n k : Nat} (h : Okd d n k) (hk : k ≤ 100000) : d.shown.length ≤ sizeLine := by
  refine Nat.le_trans (PyData.shown_le_bulk 8 (by decide) d h.lf) ?_
  have := h.bk
  have e : sizeLine = 16777216 := by decide
  omega
def tupD (l : List Nat) : PyData := .tuple (l.map fun x : Nat => PyData.int (x : Int))
theorem okAll_ints (n : Nat) : ∀ {l : List Nat}, (∀ x ∈ l, x < 1000) → OkAll (l.map fun x : Nat => PyData.int (x : Int)) n l.length
  | [], _ => OkAll.nil n _
  | x :: l, h => ((OkAll.cons (okd_int (h x List.mem_cons_self) n) (okAll_ints n fun y hy => h y (List.mem_cons_of_mem _ hy)))).mono (Nat.le_refl _) (by rw [List.length_cons]; omega)
theorem okd_tup (n : Nat) {l : List Nat} (h : ∀ x ∈ l, x < 1000) : Okd (tupD l) (n + 1) l.length := (okAll_ints n h).tup
theorem okAll_tups (n j : Nat) : ∀ {ls : List (List Nat)}, (∀ l ∈ ls, l.length ≤ j ∧ ∀ x ∈ l, x < 1000) → OkAll (ls.map tupD) (n + 1) (ls.length * (j + 1))
  | [], _ => OkAll.nil _ _
  | l :: ls, h => (OkAll.cons (okd_tup n (h l List.mem_cons_self).2) (okAll_tups n j fun y hy => h y (List.mem_cons_of_mem _ hy))).mono (Nat.le_refl _) (by
    have := (h l List.mem_cons_self).1
    rw [List.length_cons, Nat.succ_mul]
    omega)
def netD (b : Nat) (os : List (List Nat)) : PyData := .tuple [.int (b : Int), .tuple (os.map tupD)]
theorem okd_net {b : Nat} {os : List (List Nat)} (N : Net b os) : Okd (netD b os) 3 100 := by
  have n16 := pow_le16 N.hi
  have h4 := N.hi
  have hr := N.rows
  have h1 : OkAll (os.map tupD) 1 (os.length * 17) := okAll_tups 0 16 fun l hl => ⟨by rw [(N.ord l hl).len]; exact n16, fun x hx => Nat.lt_of_lt_of_le ((N.ord l hl).lt x hx) (by omega)⟩
  exact ((OkAll.cons (okd_int (x := b) (by omega) 2) (OkAll.cons (k := os.length * 17) h1.tup (OkAll.nil 2 0))).tup).mono (Nat.le_refl _) (by omega)
def pairD (p : Nat × Nat) : PyData := tupD (pl p)
def partD : Option ((Nat × Nat) × (Nat × Nat)) → PyData
  | none => .none
  | some (p, q) => .tuple [pairD p, pairD q]
theorem okd_part {W : Nat} (hW : W ≤ 16) {f g : Nat × Nat → List Nat} : Okd (partD (parting W f g)) 2 10 := by
  cases e : parting W f g with
  | none => exact (okd_non 2).mono (Nat.le_refl _) (Nat.zero_le _)
  | some r =>
    obtain ⟨p, q⟩ := r
    rw [parting_eq] at e
    obtain ⟨p', hp, e2⟩ := List.exists_of_findSome?_eq_some e
    obtain ⟨q', e3, e4⟩ := Option.map_eq_some_iff.mp e2
    have hq := (List.mem_filter.mp (List.mem_of_find?_eq_some e3)).1
    cases e4
    have a1 := mem_allPairs.mp hp
    have a2 := mem_allPairs.mp hq
    have b1 : Okd (pairD p) 1 2 := okd_tup 0 (l := pl p) fun x hx => by
      have : x = p.1 ∨ x = p.2 := by simpa using hx
      omega
    have b2 : Okd (pairD q) 1 2 := okd_tup 0 (l := pl q) fun x hx => by
      have : x = q.1 ∨ x = q.2 := by simpa using hx
      omega
    exact (OkAll.cons b1 (OkAll.cons b2 (OkAll.nil 1 0))).tup.mono (Nat.le_refl _) (by omega)
/-! ### data in the heap -/
section
variable {K : PySem.W.Frag} {H : Hp}
theorem dpAll_ints : ∀ l : List Nat, DpAll K H (l.map vN) (l.map fun x : Nat => PyData.int (x : Int))
  | [] => .nil
  | x :: l => .cons (.int x) (dpAll_ints l)
theorem dp_tup {a : Addr} {l : List Nat} (h : H a = some (.tup (l.map vN))) : Dp K H (.ref a) (tupD l) := .tup (SqT.of h) (dpAll_ints l)
theorem dp_rows : ∀ {vs : List V} {ls : List (List Nat)}, RowsAt H vs ls → DpAll K H vs (ls.map tupD)
  | [], [], _ => .nil
  | [], _ :: _, h => absurd h.1 (by simp)
  | _ :: _, [], h => absurd h.1 (by simp)
  | v :: vs, l :: ls, h => by
    obtain ⟨p, e1, e2⟩ := h.2 0 l rfl
    have ev : v = V.ref p := Option.some.inj e1
    subst ev
    exact .cons (dp_tup e2) (dp_rows (h.drop 1))
theorem dp_net {v : V} {b : Nat} {os : List (List Nat)} (h : NetAt H v b os) : Dp K H v (netD b os) := by
  obtain ⟨a, o, vs, rfl, ha, ho, hvs⟩ := h
  exact .tup (SqT.of ha) (.cons (.int b) (.cons (.tup (SqT.of ho) (dp_rows hvs)) .nil))
theorem dp_part {x : V} : ∀ {r : Option ((Nat × Nat) × (Nat × Nat))}, PartV H x r → Dp K H x (partD r)
  | none, h => by
    have e : x = .non := h
    subst e
    exact .non
  | some (p, q), ⟨a, c, d, e, h1, h2, h3⟩ => by
    subst e
    exact .tup (SqT.of h1) (.cons (dp_tup h2) (.cons (dp_tup h3) .nil))
end
section
variable {P : Program} {w : World} {K : PySem.W.Frag} {mg : Str → Option Value} {base : Heap}
/-! ### _law_like -/
def spLike (K : PySem.W.Frag) : Sp := fun vs H Q _ => ∃ (a c : Addr) (d : PyData), vs = [.ref a, .ref c] ∧ Dp K H (.ref a) d ∧ Dp K H (.ref c) d ∧ Okd d 20 5000 ∧ Q (.bl true) H
theorem ok__law_like {f : Addr} {fd : FuncData} (T : Glob mg) (D : DefAt K mg "_law_like" s_law_like ["_law_answer", "_law_due"] f fd) : ReadyG P w K mg base 1 "_law_like" ["_law_answer", "_law_due"] (spLike K) := by
  refine ⟨f, fd, fun vs H Q E h => ?_, runG_of D.fn sc_law_like (fun vs H Q E h => ?_) fun cdv A outer s H vs Q E hgd hr h => ?_, D.gl, D.fn.kp, D.bn⟩
  · obtain ⟨_, _, _, rfl, _⟩ := h
    rfl
  · obtain ⟨_, _, _, rfl, _⟩ := h
    rfl
  obtain ⟨a, c, d, rfl, da, dc, ok, q⟩ := h
  have nd := sc_law_like.nd
  refine ⟨_, pss_one (ps_ret (pe_cmpR op_eq (pe_callB (call_reprD hgd hr.units) (by rfl) T.repr (by decide +kernel) (pa_cons (pv 0) pa_nil)) (pe_callB (call_reprD hgd hr.units) (by rfl) T.repr (by decide +kernel) (pa_cons (pv 1) pa_nil)) (nomark _))), ?_⟩
  have hz := okd_shown ok (by decide)
  have h40 : d.depth ≤ 40 := Nat.le_trans ok.dp (by decide)
  refine ⟨_, rfl, a, d, rfl, da, ok.sh, ok.nd, h40, hz, _, rfl, c, d, rfl, dc, ok.sh, ok.nd, h40, hz, rfl, ?_⟩
  exact bl_to (Q := Q) (decide_eq_true rfl) q
end
end K90
namespace K90
open PySem PySem.Spec PyProof.Rows L2
theorem seq_cut {t u : TS} {D : Ends} {σ : St} {H : Hp} (Φ : St → Hp → Prop) (h1 : ∀ D' : Ends, (∀ σ H, Φ σ H → D'.nx σ H) → t D' σ H) (h2 : ∀ σ H, Φ σ H → u D σ H) : tSeq t u D σ H := h1 _ h2
theorem g_cut {t u : TS} {D : Ends} {r : VK} {b c : St → Hp → Prop} {i : Nat} {x : V} {σ : St} {H : Hp} (Φ : St → Hp → Prop) (h1 : ∀ D' : Ends, (∀ σ H, Φ σ H → D'.nx σ H) → t D' (σ.set i (some x)) H) (h2 : ∀ σ H, Φ σ H → u D σ H) : gName i x σ H (Ends.nx (Ends.mk (tSeq t u D) r b c)) := h1 _ h2
theorem n_cut {t u : TS} {D : Ends} {r : VK} {b c : St → Hp → Prop} {σ : St} {H : Hp} (Φ : St → Hp → Prop) (h1 : ∀ D' : Ends, (∀ σ H, Φ σ H → D'.nx σ H) → t D' σ H) (h2 : ∀ σ H, Φ σ H → u D σ H) : tNext (Ends.mk (tSeq t u D) r b c) σ H := h1 _ h2
theorem part_non {H : Hp} {x : V} : ∀ {r : Option ((Nat × Nat) × (Nat × Nat))}, PartV H x r → decide (x = V.non) = r.isNone
  | none, h => by
    have e : x = .non := h
    subst e
    rfl
  | some (p, q), ⟨a, c, d, e, _⟩ => by
    subst e
    rfl
theorem net1 : Net 1 [] := net_of (by decide)
theorem ban1 : Ban 1 [] := by
  unfold Ban
  decide
section
variable {P : Program} {w : World} {K : PySem.W.Frag} {mg : Str → Option Value} {base : Heap}
def spLaw (K : PySem.W.Frag) : Sp := fun vs H Q _ => ∃ (a : Addr) (zs : List Int), vs = [.ref a] ∧ SqL K H a (zs.map V.int) ∧ zs.length ≤ 63 ∧ ∀ H', Q (.bl true) H'
theorem ok_law {f : Addr} {fd : FuncData} (T : Glob mg) (D : DefAt K mg "law" slaw ["_law_script"] f fd) (R_law_begun : Ready P w K mg base 2 "_law_begun" ["_law_script"] (spBegun K))
    (R_law_draw : Ready P w K mg base 2 "_law_draw" ["_law_m", "_law_limit"] spDraw) (R_law_banyan : Ready P w K mg base 4 "_law_banyan" ["_law_m", "_law_bits"] spBanyan) (R_law_ringed : Ready P w K mg base 1 "_law_ringed" [] spRinged)
    (R_law_parting : Ready P w K mg base 3 "_law_parting" ["_law_net", "_law_other"] spFirst) (Rparting_demands : Ready P w K mg base 6 "parting_demands" ["net", "other"] spParting) (Rdo_pass_alike : Ready P w K mg base 6 "do_pass_alike" ["net", "other"] spAlike)
    (R_law_like : ReadyG P w K mg base 1 "_law_like" ["_law_answer", "_law_due"] (spLike K)) (R_law_demands : Ready P w K mg base 3 "_law_demands" ["_law_m", "_law_net", "_law_tries"] spDemands) (R_law_passes : Ready P w K mg base 2 "_law_passes" ["_law_net", "_law_some"] spPasses)
    (R_law_halving : Ready P w K mg base 1 "_law_halving" ["_law_bits"] spHalving) : RunG P w K mg base 7 f fd ["_law_script"] (spLaw K) := by
  refine runG_of D.fn sclaw (fun vs H Q E h => ?_) fun cdv A outer s H vs Q E hgd hr h => ?_
  · obtain ⟨_, _, rfl, _⟩ := h
    rfl
  obtain ⟨a, zs, rfl, hs, z63, q⟩ := h
  have nd := sclaw.nd
  have hrparting_demands := hr
  have hrdo_pass_alike := hr
  have hr_law_begun := hr.mono (by decide : 2 ≤ 6)
  have hr_law_draw := hr.mono (by decide : 2 ≤ 6)
  have hr_law_banyan := hr.mono (by decide : 4 ≤ 6)
  have hr_law_ringed := hr.mono (by decide : 1 ≤ 6)
  have hr_law_parting := hr.mono (by decide : 3 ≤ 6)
  have hr_law_like := hr.mono (by decide : 1 ≤ 6)
  have hr_law_demands := hr.mono (by decide : 3 ≤ 6)
  have hr_law_passes := hr.mono (by decide : 2 ≤ 6)
  have hr_law_halving := hr.mono (by decide : 1 ≤ 6)
  refine ⟨_, pss_cons (ps_set (i := 1) nd rfl (Or.inl rfl) (pe_rd R_law_begun hr_law_begun rfl (pa_cons (pv 0) pa_nil)))
      (pss_cons (ps_for PassesOwn.never rfl (pi_range1 (by rfl) T.range (pa_cons (pe_op op_add pe_int (pe_callB (call_min2 rfl) (by rfl) T.min (by decide +kernel) (pa_cons pe_int (pa_cons (pe_callB call_len_seq (by rfl) T.len PySem.boot_len (pa_cons (pv 0) pa_nil)) pa_nil)))) pa_nil)) (pg_name (i := 2) nd rfl (Or.inl rfl))
      (pss_cons (ps_set (i := 3) nd rfl (Or.inl rfl) (pe_op op_add pe_int (pe_rd R_law_draw hr_law_draw rfl (pa_cons (pv 1) (pa_cons pe_int pa_nil)))))
        (pss_cons (ps_par (i := 4) (j := 5) rfl nd rfl rfl (by decide) rfl rfl (pa_cons (pe_rd R_law_banyan hr_law_banyan rfl (pa_cons (pv 1) (pa_cons (pv 3) pa_nil))) (pa_cons (pe_rd R_law_banyan hr_law_banyan rfl (pa_cons (pv 1) (pa_cons (pv 3) pa_nil))) pa_nil)) (by rfl))
        (pss_cons (ps_set (i := 6) nd rfl (Or.inl rfl) (pe_rd R_law_draw hr_law_draw rfl (pa_cons (pv 1) (pa_cons pe_int pa_nil))))
        (pss_cons (ps_if (PW.pt (pw_and (pt_cmp (pc_eqI (pv 6) pe_int)) (pw_and1 (pt_cmp (pc_gt (pv 3) pe_int)))))
        (pss_cons (ps_set (i := 7) nd rfl (Or.inl rfl) (pe_ix ix_tup (pe_ix ix_tup (pv 4) pe_int (fun _ _ => rfl)) pe_int (fun _ _ => rfl)))
          (pss_one (ps_set (i := 5) nd rfl (Or.inl rfl) (pe_tup (pa_cons (pv 3) (pa_cons (pe_op op_catA (pe_tup (pa_cons (pe_op op_catA (pe_tup (pa_cons (pe_ix ix_tup (pv 7) pe_int (fun _ _ => rfl)) (pa_cons (pe_ix ix_tup (pv 7) pe_int (fun _ _ => rfl)) pa_nil))) (pe_slice sl_tupA (pv 7) (po_some pe_int) po_none)) pa_nil)) (pe_slice sl_tupA (pe_ix ix_tup (pv 4) pe_int (fun _ _ => rfl)) (po_some pe_int) po_none)) pa_nil))))))
        (pss_nil))
        (pss_cons (ps_if (PW.pt (pw_and (pt_cmp (pc_eqI (pv 6) pe_int)) (pw_and1 (pt_cmp (pc_eqI (pv 3) pe_int)))))
        (pss_one (ps_set (i := 5) nd rfl (Or.inl rfl) (pe_rd0 R_law_ringed hr_law_ringed rfl)))
        (pss_nil))
        (pss_cons (ps_par (i := 8) (j := 9) rfl nd rfl rfl (by decide) rfl rfl (pa_cons (pe_callB (call_reprD hgd hr.units) (by rfl) T.repr (by decide +kernel) (pa_cons (pe_lst (pa_cons (pv 4) (pa_cons (pv 5) pa_nil))) pa_nil)) (pa_cons (pe_rd R_law_parting hr_law_parting rfl (pa_cons (pv 4) (pa_cons (pv 5) pa_nil))) pa_nil)) (by rfl))
        (pss_cons (ps_set (i := 10) nd rfl (Or.inl rfl) (pe_lst (pa_cons (pe_rd Rparting_demands hrparting_demands rfl (pa_cons (pv 4) (pa_cons (pv 5) pa_nil))) (pa_cons (pe_rd Rparting_demands hrparting_demands rfl (pa_cons (pv 5) (pa_cons (pv 4) pa_nil))) (pa_cons (pe_rd Rparting_demands hrparting_demands rfl (pa_cons (pv 4) (pa_cons (pv 5) pa_nil))) pa_nil)))))
        (pss_cons (ps_set (i := 10) nd rfl (Or.inl rfl) (pe_op op_cat (pv 10) (pe_lst (pa_cons (pe_rd Rdo_pass_alike hrdo_pass_alike rfl (pa_cons (pv 4) (pa_cons (pv 5) pa_nil))) (pa_cons (pe_rd Rdo_pass_alike hrdo_pass_alike rfl (pa_cons (pv 5) (pa_cons (pv 4) pa_nil))) pa_nil)))))
        (pss_cons (ps_if (pt_not (pt_val (pe_rdG R_law_like hgd hr_law_like rfl (pa_cons (pv 10) (pa_cons (pe_op op_cat (pe_op op_rep (pe_lst (pa_cons (pv 9) pa_nil)) pe_int) (pe_op op_rep (pe_lst (pa_cons (pe_cmp (pc_isN (pv 9)) rfl) pa_nil)) pe_int)) pa_nil)))))
        (pss_one (ps_ret pe_bl))
        (pss_nil))
        (pss_cons (ps_for PassesOwn.never rfl (pi_range1 (by rfl) T.range (pa_cons (pe_ifExp (pt_cmp (pc_isN (pv 9))) pe_int pe_int) pa_nil)) (pg_name (i := 11) nd rfl (Or.inl rfl))
        (pss_cons (ps_set (i := 12) nd rfl (Or.inl rfl) (pe_rd R_law_demands hr_law_demands rfl (pa_cons (pv 1) (pa_cons (pv 4) (pa_cons pe_int pa_nil)))))
          (pss_one (ps_if (pt_cmpR op_ne (pe_rd R_law_passes hr_law_passes rfl (pa_cons (pv 4) (pa_cons (pv 12) pa_nil))) (pe_rd R_law_passes hr_law_passes rfl (pa_cons (pv 5) (pa_cons (pv 12) pa_nil))) (nomark _))
          (pss_one (ps_ret pe_bl))
          (pss_nil)))))
        (pss_one (ps_if (pt_cmpR op_ne (pe_callB (call_reprD hgd hr.units) (by rfl) T.repr (by decide +kernel) (pa_cons (pe_lst (pa_cons (pv 4) (pa_cons (pv 5) pa_nil))) pa_nil)) (pv 8) (nomark _))
        (pss_one (ps_ret pe_bl))
        (pss_nil))))))))))))))
      (pss_cons (ps_set (i := 13) nd rfl (Or.inl rfl) (pe_rd R_law_halving hr_law_halving rfl (pa_cons pe_int pa_nil)))
      (pss_cons (ps_set (i := 7) nd rfl (Or.inl rfl) (pe_callTy call_list_of (by rfl) T.list (by decide +kernel) (pa_cons (pe_ix ix_tup (pe_ix ix_tup (pv 13) pe_int (fun _ _ => rfl)) pe_int (fun _ _ => rfl)) pa_nil)))
      (pss_cons (ps_asg pe_int (pg_sub (pv 7) pe_int set_list))
      (pss_cons (ps_asg pe_int (pg_sub (pv 7) pe_int set_list))
      (pss_cons (ps_set (i := 5) nd rfl (Or.inl rfl) (pe_tup (pa_cons pe_int (pa_cons (pe_op op_catA (pe_tup (pa_cons (pe_callTy call_tuple_of (by rfl) T.tuple (by decide +kernel) (pa_cons (pv 7) pa_nil)) pa_nil)) (pe_slice sl_tupA (pe_ix ix_tup (pv 13) pe_int (fun _ _ => rfl)) (po_some pe_int) po_none)) pa_nil))))
      (pss_cons (ps_if (pt_not (pt_val (pe_rdG R_law_like hgd hr_law_like rfl (pa_cons (pe_lst (pa_cons (pe_rd Rparting_demands hrparting_demands rfl (pa_cons (pv 13) (pa_cons (pv 5) pa_nil))) (pa_cons (pe_rd Rdo_pass_alike hrdo_pass_alike rfl (pa_cons (pv 5) (pa_cons (pv 13) pa_nil))) pa_nil))) (pa_cons (pe_lst (pa_cons (pe_tup (pa_cons (pe_tup (pa_cons pe_int (pa_cons pe_int pa_nil))) (pa_cons (pe_tup (pa_cons pe_int (pa_cons pe_int pa_nil))) pa_nil))) (pa_cons pe_bl pa_nil))) pa_nil)))))
      (pss_one (ps_ret pe_bl))
      (pss_nil))
      (pss_cons (ps_par (i := 14) (j := 15) rfl nd rfl rfl (by decide) rfl rfl (pa_cons (pe_rd R_law_halving hr_law_halving rfl (pa_cons pe_int pa_nil)) (pa_cons (pe_rd0 R_law_ringed hr_law_ringed rfl) pa_nil)) (by rfl))
      (pss_cons (ps_set (i := 10) nd rfl (Or.inl rfl) (pe_lst (pa_cons (pe_rd Rparting_demands hrparting_demands rfl (pa_cons (pv 14) (pa_cons (pv 15) pa_nil))) (pa_cons (pe_rd Rdo_pass_alike hrdo_pass_alike rfl (pa_cons (pv 14) (pa_cons (pv 14) pa_nil))) (pa_cons (pe_rd Rparting_demands hrparting_demands rfl (pa_cons (pe_tup (pa_cons pe_int (pa_cons (pe_tup pa_nil) pa_nil))) (pa_cons (pe_tup (pa_cons pe_int (pa_cons (pe_tup pa_nil) pa_nil))) pa_nil))) pa_nil)))))
      (pss_one (ps_ret (pe_rdG R_law_like hgd hr_law_like rfl (pa_cons (pv 10) (pa_cons (pe_lst (pa_cons (pe_tup (pa_cons (pe_tup (pa_cons pe_int (pa_cons pe_int pa_nil))) (pa_cons (pe_tup (pa_cons pe_int (pa_cons pe_int pa_nil))) pa_nil))) (pa_cons pe_bl (pa_cons pe_non pa_nil)))) pa_nil)))))))))))))), ?_⟩
  refine ⟨_, rfl, a, zs, rfl, hs, z63, fun H1 m g s1 d1 => ?_⟩
  have hs1 := sqL_same hs s1
  refine g_cut (fun σ H' => ∃ y2 y3 y4 y5 y6 y7 y8 y9 y10 y11 y12 y13 y14 y15, σ = [some (.ref a), some (.ref m), y2, y3, y4, y5, y6, y7, y8, y9, y10, y11, y12, y13, y14, y15]) (fun D' hD' => ?_) (fun σ H' p => ?_)
  · refine ⟨_, rfl, a, _, rfl, .inl hs1, _, _, rfl, _, _, rfl, rfl, _, rfl, ?_, ?_, ?_⟩
    · rw [List.length_map]
      split <;> omega
    · rw [List.length_map]
      split <;> omega
    have n8 : (3 + if (((zs.map V.int).length : Nat) : Int) < 5 then (((zs.map V.int).length : Nat) : Int) else 5).toNat ≤ 8 := by split <;> omega
    refine for_it walk_r0 (fun i σ H' => (∃ k, k ≤ i * 300 ∧ DrawAt H' m g k) ∧ ∃ y2 y3 y4 y5 y6 y7 y8 y9 y10 y11 y12 y13 y14 y15, σ = [some (.ref a), some (.ref m), y2, y3, y4, y5, y6, y7, y8, y9, y10, y11, y12, y13, y14, y15])
      ⟨⟨0, Nat.le_refl _, d1⟩, none, none, none, none, none, none, none, none, none, none, none, none, none, none, rfl⟩ (fun _ _ _ _ _ => trivial) (fun i y σ H2 H3 hi p y1 => ?_) (fun σ H' p => hD' _ _ p.2)
    obtain ⟨⟨k, hk, d3⟩, y2, y3, y4, y5, y6, y7, y8, y9, y10, y11, y12, y13, y14, y15, rfl⟩ := p
    obtain ⟨rfl, rfl⟩ := y1
    have hi8 : i < 8 := Nat.lt_of_lt_of_le hi n8
    clear hi n8
    refine ⟨_, rfl, m, g, k, 3, rfl, d3, by omega, by omega, by omega, fun H4 r K4 d4 hr3 => ⟨_, _, rfl, rfl, ?_⟩⟩
    show gName 3 (V.int ((1 : Int) + ((r : Nat) : Int))) _ _ _
    rw [show (1 : Int) + ((r : Nat) : Int) = ((r + 1 : Nat) : Int) by omega]
    obtain ⟨b, eb⟩ : ∃ b, b = r + 1 := ⟨_, rfl⟩
    rw [← eb]
    have b1 : 1 ≤ b := by omega
    have b3 : b ≤ 3 := by omega
    refine ⟨_, rfl, _, rfl, m, g, k + 1, b, rfl, d4, by omega, b1, b3, fun H5 v os k5 K5 d5 hk5 n5 N B => ?_⟩
    refine ⟨_, rfl, _, rfl, m, g, k5, b, rfl, d5, by omega, b1, b3, fun H6 u ps k6 K6 d6 hk6 n6 M C => ⟨_, _, rfl, ?_⟩⟩
    have nv6 : NetAt H6 v b os := n5.mono fun z l e => K6.tup d5 e
    refine ⟨_, rfl, m, g, k6, 3, rfl, d6, by omega, by omega, by omega, fun H7 pk K7 d7 hpk => ?_⟩
    have nv7 : NetAt H7 v b os := nv6.mono fun z l e => K7.tup d6 e
    have nu7 : NetAt H7 u b ps := n6.mono fun z l e => K7.tup d6 e
    refine g_cut (fun σ H' => ∃ (u : V) (ps : List (List Nat)) (y7 : Option V), NetAt H' v b os ∧ NetAt H' u b ps ∧ Net b ps ∧ Ban b ps ∧ DrawAt H' m g (k6 + 1) ∧ σ = [some (.ref a), some (.ref m), some (vN i), some (vN b), some v, some u, some (vN pk), y7, y8, y9, y10, y11, y12, y13, y14, y15]) (fun D2 hD2 => ?_) (fun σ H' p => ?_)
    · refine ⟨_, rfl, _, _, rfl, rfl, _, rfl, iteD (fun h0 => ?_) (fun h0 => iteF (hD2 _ _ ⟨u, ps, y7, nv7, nu7, M, C, d7, rfl⟩))⟩
      refine ⟨_, rfl, _, _, rfl, rfl, _, rfl, iteD (fun h1 => ?_) (fun h1 => hD2 _ _ ⟨u, ps, y7, nv7, nu7, M, C, d7, rfl⟩)⟩
      have hb2 : 2 ≤ b := by omega
      have p4 : 4 ≤ 2 ^ b := Nat.pow_le_pow_right (by decide : 1 ≤ 2) hb2
      have n16 := pow_le16 N.hi
      obtain ⟨a', o', vs, rfl, ha, ho, hvs⟩ := nv7
      have lrw := N.rows
      match os, N, B, hvs, lrw with
      | [], _, _, _, lrw => exact absurd lrw (by simp; omega)
      | [] :: rest, N, _, _, _ =>
        have := (N.ord _ List.mem_cons_self).len
        exact absurd this (by simp; omega)
      | [x] :: rest, N, _, _, _ =>
        have := (N.ord _ List.mem_cons_self).len
        exact absurd this (by simp; omega)
      | (x :: y :: rr) :: rest, N, B, hvs, lrw =>
        have l0 := (N.ord _ List.mem_cons_self).len
        rw [List.length_cons, List.length_cons] at l0
        obtain ⟨SN, SB⟩ := swap_ok N B
        obtain ⟨p0, lst0, g1, g2, g3⟩ := hvs.get (i := 0) (by simp)
        have el : x :: y :: rr = lst0 := Option.some.inj g2
        subst el
        have n0 : (x :: y :: rr).map vN = vN x :: vN y :: rr.map vN := rfl
        have lv : vs.length = rest.length + 1 := by
          rw [hvs.1, List.length_cons]
        have lr : rr.length ≤ 20 := by omega
        have lr2 : 1 ≤ rr.length := by omega
        refine ⟨_, rfl, a', _, 1, _, rfl, rfl, SqT.of ha, atI_nat (j := 1) rfl, o', _, 0, _, rfl, rfl, SqT.of ho, atI_nat (j := 0) g1, ?_⟩
        refine ⟨_, rfl, _, rfl, p0, _, 1, _, rfl, rfl, SqT.of g3, atI_nat (j := 1) rfl, _, rfl, p0, _, 0, _, rfl, rfl, SqT.of g3, atI_nat (j := 0) rfl, (by decide : 2 ≤ sizeLine), fun q1 hq1 => ?_⟩
        have t1 := sm_new (o := .tup [vN y, vN x]) hq1
        refine ⟨_, rfl, _, rfl, p0, _, rfl, SqT.of (t1 _ _ g3), fun e => absurd e.1 (by rw [show (2 : Int) = ((2 : Nat) : Int) from rfl, HT.sIx_nat, List.length_map, List.length_cons, List.length_cons]; omega), fun _ q2 hq2 => ?_⟩
        have e2 : cutV ((x :: y :: rr).map vN) (some 2) none = rr.map vN := cutV_from _ 2
        rw [e2] at *
        have t2 := sm_new (o := .tup (rr.map vN)) hq2
        have rne : rr.map vN ≠ [] := fun e => by
          have := List.map_eq_nil_iff.mp e
          rw [this] at lr2
          simp at lr2
        refine ⟨q1, q2, [vN y, vN x], rr.map vN, rfl, rfl, SqT.of (t2 _ _ upd_same), SqT.of upd_same, small_of (by simp; omega), fun e => absurd e (List.cons_ne_nil _ _), fun _ e => absurd e rne, fun _ _ q3 hq3 => ?_⟩
        have t3 := sm_new (o := .tup ([vN y, vN x] ++ rr.map vN)) hq3
        refine ⟨(by decide : 1 ≤ sizeLine), fun q4 hq4 => ?_⟩
        have t4 := sm_new (o := .tup [V.ref q3]) hq4
        have t14 := ((t1.trans t2).trans t3).trans t4
        refine ⟨_, rfl, a', _, 1, _, rfl, rfl, SqT.of (t14 _ _ ha), atI_nat (j := 1) rfl, _, rfl, o', vs, rfl, SqT.of (t14 _ _ ho), fun e => absurd e.1 (by rw [show (1 : Int) = ((1 : Nat) : Int) from rfl, HT.sIx_nat]; omega), fun _ q5 hq5 => ?_⟩
        have e5 : cutV vs (some 1) none = vs.drop 1 := cutV_from _ 1
        rw [e5] at *
        have t5 := sm_new (o := .tup (vs.drop 1)) hq5
        have lv10 : vs.length ≤ 10 := by
          rw [List.length_cons] at lrw
          have := N.hi
          omega
        have r3 := t4.trans t5
        have row3 : ∀ H', Same (upd (upd (upd (upd (upd H7 q1 (.tup [vN y, vN x])) q2 (.tup (rr.map vN))) q3 (.tup ([vN y, vN x] ++ rr.map vN))) q4 (.tup [V.ref q3])) q5 (.tup (vs.drop 1))) H' → RowsAt H' (V.ref q3 :: vs.drop 1) ((y :: x :: rr) :: rest) := fun H' sH =>
          (RowsAt.one (p := q3) (l := y :: x :: rr) ((r3.trans sH) _ _ upd_same)).app (((hvs.drop 1).same (t14.trans t5)).same sH)
        have nvz : ∀ H', Same (upd (upd (upd (upd (upd H7 q1 (.tup [vN y, vN x])) q2 (.tup (rr.map vN))) q3 (.tup ([vN y, vN x] ++ rr.map vN))) q4 (.tup [V.ref q3])) q5 (.tup (vs.drop 1))) H' → NetAt H' (.ref a') b ((x :: y :: rr) :: rest) ∧ DrawAt H' m g (k6 + 1) := fun H' sH =>
          ⟨⟨a', o', vs, rfl, ((t14.trans t5).trans sH) _ _ ha, ((t14.trans t5).trans sH) _ _ ho, hvs.same ((t14.trans t5).trans sH)⟩, d7.same ((t14.trans t5).trans sH)⟩
        have hq4' := t5 q4 _ upd_same
        refine ⟨q4, q5, [V.ref q3], vs.drop 1, rfl, rfl, SqT.of hq4', SqT.of upd_same, small_of (by simp; omega), fun e => absurd e (List.cons_ne_nil _ _), fun _ e => ?_, fun _ _ q6 hq6 => ?_⟩
        · refine ⟨(by decide : 2 ≤ sizeLine), fun q7 hq7 => ?_⟩
          have t7 := sm_new (o := .tup [vN b, V.ref q4]) hq7
          have rw7 := row3 _ t7
          rw [show V.ref q3 :: vs.drop 1 = [V.ref q3] by rw [e]] at rw7
          exact hD2 _ _ ⟨.ref q7, (y :: x :: rr) :: rest, _, (nvz _ t7).1, ⟨q7, q4, [V.ref q3], rfl, upd_same, t7 _ _ hq4', rw7⟩, SN, SB, (nvz _ t7).2, rfl⟩
        · have t6 := sm_new (o := .tup ([V.ref q3] ++ vs.drop 1)) hq6
          refine ⟨(by decide : 2 ≤ sizeLine), fun q7 hq7 => ?_⟩
          have t7 := sm_new (o := .tup [vN b, V.ref q6]) hq7
          exact hD2 _ _ ⟨.ref q7, (y :: x :: rr) :: rest, _, (nvz _ (t6.trans t7)).1, ⟨q7, q6, [V.ref q3] ++ vs.drop 1, rfl, upd_same, t7 _ _ upd_same, row3 _ (t6.trans t7)⟩, SN, SB, (nvz _ (t6.trans t7)).2, rfl⟩
    obtain ⟨u, ps, y7, nv, nu, M, C, d8, rfl⟩ := p
    refine seq_cut (fun σ H' => ∃ (u : V) (ps : List (List Nat)), NetAt H' v b os ∧ NetAt H' u b ps ∧ Net b ps ∧ Ban b ps ∧ DrawAt H' m g (k6 + 1) ∧ σ = [some (.ref a), some (.ref m), some (vN i), some (vN b), some v, some u, some (vN pk), y7, y8, y9, y10, y11, y12, y13, y14, y15]) (fun D2 hD2 => ?_) (fun σ H' p => ?_)
    · refine ⟨_, rfl, _, _, rfl, rfl, _, rfl, iteD (fun h0 => ?_) (fun h0 => iteF (hD2 _ _ ⟨u, ps, nv, nu, M, C, d8, rfl⟩))⟩
      refine ⟨_, rfl, _, _, rfl, rfl, _, rfl, iteD (fun h1 => ?_) (fun h1 => hD2 _ _ ⟨u, ps, nv, nu, M, C, d8, rfl⟩)⟩
      refine ⟨rfl, fun H9 v' s9 n9 => ?_⟩
      have hb : b = 3 := by omega
      rw [← hb] at n9
      have M9 := ringed_net
      have C9 := ringed_ban
      rw [← hb] at M9 C9
      exact hD2 _ _ ⟨v', ringed, nv.same s9, n9, M9, C9, d8.same s9, rfl⟩
    clear nv nu M C d8
    obtain ⟨u, ps, nv, nu, M, C, d8, rfl⟩ := p
    have okl : Okd (.list [netD b os, netD b ps]) 20 5000 := (OkAll.cons (okd_net N) (OkAll.cons (okd_net M) (OkAll.nil 3 0))).lst.mono (by decide) (by decide)
    have hz := okd_shown okl (by decide)
    have h40 : PyData.depth (.list [netD b os, netD b ps]) ≤ 40 := Nat.le_trans okl.dp (by decide)
    refine ⟨_, rfl, _, rfl, (by decide : 2 ≤ sizeLine), fun l1 hl1 => ?_⟩
    have t1 := sm_new (o := .lst [v, u]) hl1
    refine ⟨l1, .list [netD b os, netD b ps], rfl, .lst (SqL.of upd_same) (.cons (dp_net (nv.same t1)) (.cons (dp_net (nu.same t1)) .nil)), okl.sh, okl.nd, h40, hz, ?_⟩
    refine ⟨_, rfl, _, rfl, v, u, b, os, ps, rfl, nv.same t1, nu.same t1, N, M, B, C, fun H9 x9 s9 p9 => ⟨_, _, rfl, ?_⟩⟩
    have nv9 := nv.same (t1.trans s9)
    have nu9 := nu.same (t1.trans s9)
    have d9 := d8.same (t1.trans s9)
    have W16 := pow_le16 N.hi
    have okp : Okd (partD (parting (2 ^ b) (way os) (way ps))) 2 10 := okd_part W16
    have esym := parting_symm (2 ^ b) (way os) (way ps)
    generalize er : parting (2 ^ b) (way os) (way ps) = pr at p9 okp esym
    refine ⟨_, rfl, _, rfl, v, u, b, os, ps, rfl, nv9, nu9, N, M, B, C, fun H10 x10 s10 p10 => ?_⟩
    refine ⟨_, rfl, _, rfl, u, v, b, ps, os, rfl, nu9.same s10, nv9.same s10, M, N, C, B, fun H11 x11 s11 p11 => ?_⟩
    have s911 := s10.trans s11
    refine ⟨_, rfl, _, rfl, v, u, b, os, ps, rfl, nv9.same s911, nu9.same s911, N, M, B, C, fun H12 x12 s12 p12 => ⟨(by decide : 3 ≤ sizeLine), fun l2 hl2 => ?_⟩⟩
    rw [er] at p10 p12
    rw [← esym] at p11
    have t2 := sm_new (o := .lst [x10, x11, x12]) hl2
    have s9a := (s911.trans s12).trans t2
    refine ⟨_, rfl, _, rfl, _, rfl, v, u, b, os, ps, rfl, nv9.same s9a, nu9.same s9a, N, M, B, C, fun H13 s13 => ?_⟩
    have s9b := s9a.trans s13
    refine ⟨_, rfl, _, rfl, u, v, b, ps, os, rfl, nu9.same s9b, nv9.same s9b, M, N, C, B, fun H14 s14 => ⟨(by decide : 2 ≤ sizeLine), fun l3 hl3 => ?_⟩⟩
    have t3 := sm_new (o := .lst [V.bl (parting (2 ^ b) (way os) (way ps)).isNone, V.bl (parting (2 ^ b) (way ps) (way os)).isNone]) hl3
    have s214 := (s13.trans s14).trans t3
    refine ⟨l2, l3, _, _, rfl, rfl, s214 _ _ upd_same, upd_same, (by decide : 5 ≤ sizeLine), fun l4 hl4 => ?_⟩
    have t4 := sm_new (o := .lst ([x10, x11, x12] ++ [V.bl (parting (2 ^ b) (way os) (way ps)).isNone, V.bl (parting (2 ^ b) (way ps) (way os)).isNone])) hl4
    refine ⟨_, rfl, _, rfl, (by decide : 1 ≤ sizeLine), fun l5 hl5 => ?_⟩
    have t5 := sm_new (o := .lst [x9]) hl5
    refine ⟨l5, 3, _, rfl, rfl, upd_same, by decide, by decide, (by decide : 3 ≤ sizeLine), fun l6 hl6 => ?_⟩
    have t6 := sm_new (o := .lst [x9, x9, x9]) hl6
    refine ⟨_, rfl, (by decide : 1 ≤ sizeLine), fun l7 hl7 => ?_⟩
    have t7 := sm_new (o := .lst [V.bl (decide (x9 = V.non))]) hl7
    refine ⟨l7, 2, _, rfl, rfl, upd_same, by decide, by decide, (by decide : 2 ≤ sizeLine), fun l8 hl8 => ?_⟩
    have t8 := sm_new (o := .lst [V.bl (decide (x9 = V.non)), V.bl (decide (x9 = V.non))]) hl8
    refine ⟨l6, l8, [x9, x9, x9], [V.bl (decide (x9 = V.non)), V.bl (decide (x9 = V.non))], rfl, rfl, (t7.trans t8) _ _ upd_same, upd_same, (by decide : 5 ≤ sizeLine), fun l9 hl9 => ?_⟩
    have t9 := sm_new (o := .lst ([x9, x9, x9] ++ [V.bl (decide (x9 = V.non)), V.bl (decide (x9 = V.non))])) hl9
    have t59 := (((t5.trans t6).trans t7).trans t8).trans t9
    have sE := ((s9b.trans s14).trans t3).trans (t4.trans t59)
    have sE10 := ((((s11.trans s12).trans t2).trans s13).trans s14).trans (t3.trans (t4.trans t59))
    have sE11 := (((s12.trans t2).trans s13).trans s14).trans (t3.trans (t4.trans t59))
    have sE12 := ((t2.trans s13).trans s14).trans (t3.trans (t4.trans t59))
    have hl4E := t59 _ _ upd_same
    have nvE := nv9.same sE
    have nuE := nu9.same sE
    have dE := d9.same sE
    have pE := p9.same sE
    have dp1 : ∀ H', Dp K H' (V.bl (parting (2 ^ b) (way os) (way ps)).isNone) (.bool pr.isNone) := fun H' => by
      rw [er]
      exact .bl _
    have dp2 : ∀ H', Dp K H' (V.bl (parting (2 ^ b) (way ps) (way os)).isNone) (.bool pr.isNone) := fun H' => by
      rw [← esym]
      exact .bl _
    have dp3 : ∀ H', Dp K H' (V.bl (decide (x9 = V.non))) (.bool pr.isNone) := fun H' => by
      rw [part_non p9]
      exact .bl _
    have okb := okd_bl pr.isNone 2
    have ok5 : Okd (.list [partD pr, partD pr, partD pr, .bool pr.isNone, .bool pr.isNone]) 20 5000 := (OkAll.cons okp (OkAll.cons okp (OkAll.cons okp (OkAll.cons okb (OkAll.cons okb (OkAll.nil 2 0)))))).lst.mono (by decide) (by decide)
    refine ⟨l4, l9, .list [partD pr, partD pr, partD pr, .bool pr.isNone, .bool pr.isNone], rfl, .lst (SqL.of hl4E) (.cons (dp_part (p10.same sE10)) (.cons (dp_part (p11.same sE11)) (.cons (dp_part (p12.same sE12)) (.cons (dp1 _) (.cons (dp2 _) .nil))))),
      .lst (SqL.of upd_same) (.cons (dp_part pE) (.cons (dp_part pE) (.cons (dp_part pE) (.cons (dp3 _) (.cons (dp3 _) .nil))))), ok5, ⟨true, rfl, iteF ?_⟩⟩
    generalize upd (upd (upd (upd (upd (upd _ _ _) _ _) _ _) _ _) _ _) l9 _ = HE at nvE nuE dE pE ⊢
    refine n_cut (fun σ H' => (∃ k', k' ≤ k6 + 1 + 48 ∧ DrawAt H' m g k') ∧ NetAt H' v b os ∧ NetAt H' u b ps ∧ ∃ y11 y12, σ = [some (.ref a), some (.ref m), some (vN i), some (vN b), some v, some u, some (vN pk), y7, some (.str (PyData.shown (.list [netD b os, netD b ps]))), some x9, some (.ref l4), y11, y12, y13, y14, y15]) (fun D2 hD2 => ?_) (fun σ H' p => ?_)
    · refine ⟨_, rfl, _, rfl, iteD (fun hx => ?_) (fun hx => ?_)⟩
      · have hpr : pr = none := by
          have e := part_non p9
          rw [hx] at e
          cases pr with
          | none => rfl
          | some z => exact absurd e (by simp)
        rw [hpr] at er
        refine ⟨4, rfl, by decide, by decide, for_it walk_r0 (fun j σ H' => (∃ k', k' ≤ k6 + 1 + 12 * j ∧ DrawAt H' m g k') ∧ NetAt H' v b os ∧ NetAt H' u b ps ∧ ∃ y11 y12, σ = [some (.ref a), some (.ref m), some (vN i), some (vN b), some v, some u, some (vN pk), y7, some (.str (PyData.shown (.list [netD b os, netD b ps]))), some x9, some (.ref l4), y11, y12, y13, y14, y15])
          ⟨⟨k6 + 1, by omega, dE⟩, nvE, nuE, y11, y12, rfl⟩ (fun _ _ _ _ _ => trivial) (fun j y σ H15 H16 hj p y1 => ?_) (fun σ H' p => ?_)⟩
        · obtain ⟨⟨k', hk', d15⟩, nv15, nu15, y11, y12, rfl⟩ := p
          obtain ⟨rfl, rfl⟩ := y1
          have hj4 : j < 4 := hj
          refine ⟨_, rfl, _, rfl, m, g, k', 6, b, v, os, rfl, d15, by omega, by omega, nv15, N, fun H17 tt ws ds K17 d17 htt rows dem ld => ?_⟩
          have nv17 : NetAt H17 v b os := nv15.mono fun z l e => K17.tup d15 e
          have nu17 : NetAt H17 u b ps := nu15.mono fun z l e => K17.tup d15 e
          refine ⟨_, rfl, _, rfl, v, tt, b, os, ws, ds, rfl, nv17, N, B, htt, rows, dem.all, by omega, fun H18 s18 => ?_⟩
          refine ⟨_, rfl, _, rfl, u, tt, b, ps, ws, ds, rfl, nu17.same s18, M, C, s18 _ _ htt, rows.same s18, dem.all, by omega, fun H19 s19 => ?_⟩
          have epass : passes (way os) [] ds = passes (way ps) [] ds := passes_alike er (fun p hp => way_len N B hp) (fun p hp => way_len M C hp) ds [] (by simpa using dem.all) (by simpa using dem.ins) (by simpa using dem.outs)
          have s1719 := s18.trans s19
          refine ⟨rfl, _, rfl, iteN (fun h => absurd (congrArg V.bl epass) h) (fun h => ?_)⟩
          exact ⟨⟨k' + 2 * 6, by omega, d17.same s1719⟩, nv17.same s1719, nu17.same s1719, _, _, rfl⟩
        · obtain ⟨⟨k', hk', d15⟩, nv15, nu15, y11, y12, rfl⟩ := p
          exact hD2 _ _ ⟨⟨k', Nat.le_trans hk' (by show k6 + 1 + 12 * 4 ≤ _; omega), d15⟩, nv15, nu15, _, _, rfl⟩
      · refine ⟨0, rfl, by decide, by decide, for_it walk_r0 (fun j σ H' => DrawAt H' m g (k6 + 1) ∧ NetAt H' v b os ∧ NetAt H' u b ps ∧ ∃ y11 y12, σ = [some (.ref a), some (.ref m), some (vN i), some (vN b), some v, some u, some (vN pk), y7, some (.str (PyData.shown (.list [netD b os, netD b ps]))), some x9, some (.ref l4), y11, y12, y13, y14, y15])
          ⟨dE, nvE, nuE, y11, y12, rfl⟩ (fun _ _ _ _ _ => trivial) (fun j y σ H15 H16 hj p y1 => absurd hj (Nat.not_lt_zero _)) (fun σ H' p => ?_)⟩
        obtain ⟨d15, nv15, nu15, y11, y12, rfl⟩ := p
        exact hD2 _ _ ⟨⟨k6 + 1, by omega, d15⟩, nv15, nu15, _, _, rfl⟩
    · obtain ⟨⟨k', hk', d15⟩, nv15, nu15, y11, y12, rfl⟩ := p
      refine ⟨_, rfl, _, rfl, (by decide : 2 ≤ sizeLine), fun lz hlz => ?_⟩
      have tz := sm_new (o := .lst [v, u]) hlz
      refine ⟨lz, .list [netD b os, netD b ps], rfl, .lst (SqL.of upd_same) (.cons (dp_net (nv15.same tz)) (.cons (dp_net (nu15.same tz)) .nil)), okl.sh, okl.nd, h40, hz, ?_⟩
      refine ⟨_, rfl, rfl, _, rfl, iteN (fun h => absurd rfl h) (fun h => ?_)⟩
      exact ⟨⟨k', by omega, d15.same tz⟩, _, _, _, _, _, _, _, _, _, _, _, _, _, _, rfl⟩
  · obtain ⟨y2, y3, y4, y5, y6, y7, y8, y9, y10, y11, y12, y13, y14, y15, rfl⟩ := p
    have hn4 : Net 4 (halv 4) := halv_net (by decide) (by decide)
    have hb4 : Ban 4 (halv 4) := halv_ban (by decide) (by decide)
    refine ⟨4, rfl, by decide, by decide, fun H2 v s2 n2 => ?_⟩
    obtain ⟨a4, o4, vs4, rfl, ha, ho, hvs⟩ := n2
    obtain ⟨p0, L0, g1, g2, g3⟩ := hvs.get (i := 0) (by decide)
    have eL : L0 = ng2 (halv 4) := (Option.some.inj ((show (halv 4)[0]? = some (ng2 (halv 4)) from rfl).symm.trans g2)).symm
    have l16 : L0.length = 16 := by
      rw [eL]
      decide +kernel
    have lvs : vs4.length = 3 := hvs.1
    refine ⟨_, rfl, a4, _, 1, _, rfl, rfl, SqT.of ha, atI_nat (j := 1) rfl, o4, _, 0, _, rfl, rfl, SqT.of ho, atI_nat (j := 0) g1, p0, _, rfl, .inr (SqT.of g3), fun c hc => ?_⟩
    have i10 : ixN (L0.map vN).length 10 = some 10 := by
      rw [List.length_map, l16]
      rfl
    have i12 : ixN ((L0.map vN).set 10 (V.int 6)).length 12 = some 12 := by
      rw [List.length_set, List.length_map, l16]
      rfl
    refine ⟨_, rfl, c, _, 10, 10, rfl, rfl, upd_same, i10, ?_⟩
    rw [upd_upd]
    refine ⟨_, rfl, c, _, 12, 12, rfl, rfl, upd_same, i12, ?_⟩
    rw [upd_upd]
    have er : ((L0.map vN).set 10 (V.int 6)).set 12 (V.int 5) = ((L0.set 10 6).set 12 5).map vN := by
      rw [List.map_set, List.map_set]
      rfl
    rw [er]
    have tc := sm_new (o := .lst (((L0.set 10 6).set 12 5).map vN)) hc
    refine ⟨_, rfl, c, _, rfl, .inl ⟨SqL.of upd_same, fun q1 hq1 => ⟨(by decide : 1 ≤ sizeLine), fun q2 hq2 => ?_⟩⟩⟩
    have u1 := sm_new (o := .tup (((L0.set 10 6).set 12 5).map vN)) hq1
    have u2 := sm_new (o := .tup [V.ref q1]) hq2
    have u02 := (tc.trans u1).trans u2
    refine ⟨_, rfl, a4, _, 1, _, rfl, rfl, SqT.of (u02 _ _ ha), atI_nat (j := 1) rfl, _, rfl, o4, vs4, rfl, SqT.of (u02 _ _ ho), fun e => absurd e.1 (by rw [show (1 : Int) = ((1 : Nat) : Int) from rfl, HT.sIx_nat]; omega), fun _ q3 hq3 => ?_⟩
    have e5 : cutV vs4 (some 1) none = vs4.drop 1 := cutV_from _ 1
    rw [e5] at *
    have u3 := sm_new (o := .tup (vs4.drop 1)) hq3
    have dne : vs4.drop 1 ≠ [] := fun e => by
      have := congrArg List.length e
      rw [List.length_drop, lvs] at this
      simp at this
    refine ⟨q2, q3, [V.ref q1], vs4.drop 1, rfl, rfl, SqT.of (u3 _ _ upd_same), SqT.of upd_same, small_of (by simp; omega), fun e => absurd e (List.cons_ne_nil _ _), fun _ e => absurd e dne, fun _ _ q4 hq4 => ⟨(by decide : 2 ≤ sizeLine), fun q5 hq5 => ?_⟩⟩
    have u4 := sm_new (o := .tup ([V.ref q1] ++ vs4.drop 1)) hq4
    have u5 := sm_new (o := .tup [vN 4, V.ref q4]) hq5
    have uE := ((u02.trans u3).trans u4).trans u5
    have nO : NetAt _ (.ref q5) 4 fourO := ⟨q5, q4, [V.ref q1] ++ vs4.drop 1, rfl, upd_same, u5 _ _ upd_same, by
      have r1 := RowsAt.one ((((u2.trans u3).trans u4).trans u5) q1 _ upd_same)
      have r2 := (hvs.drop 1).same uE
      have r3 := r1.app r2
      rw [show fourO = [((L0.set 10 6).set 12 5)] ++ (halv 4).drop 1 by rw [eL]; rfl]
      exact r3⟩
    have nF : NetAt _ (.ref a4) 4 (halv 4) := ⟨a4, o4, vs4, rfl, uE _ _ ha, uE _ _ ho, hvs.same uE⟩
    generalize upd (upd (upd (upd (upd (upd H2 c _) q1 _) q2 _) q3 _) q4 _) q5 _ = H5 at nO nF ⊢
    refine ⟨_, rfl, _, rfl, .ref a4, .ref q5, 4, halv 4, fourO, rfl, nF, nO, hn4, fourO_net, hb4, fourO_ban, fun H6 x6 s6 p6 => ?_⟩
    rw [four_parting] at p6
    refine ⟨_, rfl, _, rfl, .ref q5, .ref a4, 4, fourO, halv 4, rfl, nO.same s6, nF.same s6, fourO_net, hn4, fourO_ban, hb4, fun H7 s7 => ⟨(by decide : 2 ≤ sizeLine), fun l1 hl1 => ?_⟩⟩
    have w1 := sm_new (o := .lst [x6, V.bl (parting (2 ^ 4) (way fourO) (way (halv 4))).isNone]) hl1
    refine ⟨(by decide : 2 ≤ sizeLine), fun b1 hb1 => ⟨(by decide : 2 ≤ sizeLine), fun b2 hb2 => ⟨(by decide : 2 ≤ sizeLine), fun b3 hb3 => ⟨(by decide : 2 ≤ sizeLine), fun l2 hl2 => ?_⟩⟩⟩⟩
    have w2 := sm_new (o := .tup [V.int 8, V.int 0]) hb1
    have w3 := sm_new (o := .tup [V.int 10, V.int 2]) hb2
    have w4 := sm_new (o := .tup [V.ref b1, V.ref b2]) hb3
    have w5 := sm_new (o := .lst [V.ref b3, V.bl false]) hl2
    have w25 := ((w2.trans w3).trans w4).trans w5
    have dpb : ∀ H', Dp K H' (V.bl (parting (2 ^ 4) (way fourO) (way (halv 4))).isNone) (.bool false) := fun H' => by
      rw [parting_symm, four_parting]
      exact .bl _
    have okA : Okd (.list [partD (some ((8, 0), (10, 2))), .bool false]) 20 5000 := by
      have z : Okd (partD (parting (2 ^ 4) (way (halv 4)) (way fourO))) 2 10 := okd_part (by decide)
      rw [four_parting] at z
      exact (OkAll.cons z (OkAll.cons (okd_bl false 2) (OkAll.nil 2 0))).lst.mono (by decide) (by decide)
    have pdue : PartV _ (.ref b3) (some ((8, 0), (10, 2))) := ⟨b3, b1, b2, rfl, w5 _ _ upd_same, ((w3.trans w4).trans w5) b1 _ upd_same, (w4.trans w5) b2 _ upd_same⟩
    refine ⟨_, l2, _, rfl, .lst (SqL.of (w25 l1 _ upd_same)) (.cons (dp_part (p6.same ((s7.trans w1).trans w25))) (.cons (dpb _) .nil)), .lst (SqL.of upd_same) (.cons (dp_part pdue) (.cons (.bl false) .nil)), okA, ⟨true, rfl, iteF ?_⟩⟩
    generalize upd (upd (upd (upd (upd H7 l1 _) b1 _) b2 _) b3 _) l2 _ = H8
    have hn3 : Net 3 (halv 3) := halv_net (by decide) (by decide)
    have hb3' : Ban 3 (halv 3) := halv_ban (by decide) (by decide)
    refine ⟨3, rfl, by decide, by decide, fun H9 v9 s9 n9 => ⟨rfl, fun H10 v10 s10 n10 => ⟨_, _, rfl, ?_⟩⟩⟩
    have n9' := n9.same s10
    refine ⟨_, rfl, _, rfl, v9, v10, 3, halv 3, ringed, rfl, n9', n10, hn3, ringed_net, hb3', ringed_ban, fun H11 x11 s11 p11 => ?_⟩
    rw [ring_parting] at p11
    refine ⟨_, rfl, _, rfl, v9, v9, 3, halv 3, halv 3, rfl, n9'.same s11, n9'.same s11, hn3, hn3, hb3', hb3', fun H12 s12 => ?_⟩
    refine ⟨(by decide : 0 ≤ sizeLine), fun e1 he1 => ⟨(by decide : 2 ≤ sizeLine), fun q1' hq1' => ⟨(by decide : 0 ≤ sizeLine), fun e2 he2 => ⟨(by decide : 2 ≤ sizeLine), fun q2' hq2' => ?_⟩⟩⟩⟩
    have y1 := sm_new (o := .tup []) he1
    have y2' := sm_new (o := .tup [vN 1, V.ref e1]) hq1'
    have y3' := sm_new (o := .tup []) he2
    have y4' := sm_new (o := .tup [vN 1, V.ref e2]) hq2'
    refine ⟨.ref q1', .ref q2', 1, [], [], rfl, ⟨q1', e1, [], rfl, (y3'.trans y4') _ _ upd_same, ((y2'.trans y3').trans y4') e1 _ upd_same, RowsAt.nil _⟩, ⟨q2', e2, [], rfl, upd_same, y4' e2 _ upd_same, RowsAt.nil _⟩, net1, net1, ban1, ban1, fun H13 x13 s13 p13 => ⟨(by decide : 3 ≤ sizeLine), fun l3 hl3 => ?_⟩⟩
    rw [parting_self] at p13
    have w6 := sm_new (o := .lst [x11, V.bl (parting (2 ^ 3) (way (halv 3)) (way (halv 3))).isNone, x13]) hl3
    have s1113 := ((((s12.trans y1).trans y2').trans y3').trans y4').trans s13
    refine ⟨_, rfl, (by decide : 2 ≤ sizeLine), fun b1' hb1' => ⟨(by decide : 2 ≤ sizeLine), fun b2' hb2' => ⟨(by decide : 2 ≤ sizeLine), fun b3' hb3'' => ⟨(by decide : 3 ≤ sizeLine), fun l4 hl4 => ?_⟩⟩⟩⟩
    have x2 := sm_new (o := .tup [V.int 0, V.int 0]) hb1'
    have x3 := sm_new (o := .tup [V.int 2, V.int 1]) hb2'
    have x4 := sm_new (o := .tup [V.ref b1', V.ref b2']) hb3''
    have x5 := sm_new (o := .lst [V.ref b3', V.bl true, V.non]) hl4
    have x25 := ((x2.trans x3).trans x4).trans x5
    have dpc : ∀ H', Dp K H' (V.bl (parting (2 ^ 3) (way (halv 3)) (way (halv 3))).isNone) (.bool true) := fun H' => by
      rw [parting_self]
      exact .bl _
    have okB : Okd (.list [partD (some ((0, 0), (2, 1))), .bool true, .none]) 20 5000 := by
      have z : Okd (partD (parting (2 ^ 3) (way (halv 3)) (way ringed))) 2 10 := okd_part (by decide)
      rw [ring_parting] at z
      exact (OkAll.cons z (OkAll.cons (okd_bl true 2) (OkAll.cons (okd_non 2) (OkAll.nil 2 0)))).lst.mono (by decide) (by decide)
    have pdue' : PartV _ (.ref b3') (some ((0, 0), (2, 1))) := ⟨b3', b1', b2', rfl, x5 _ _ upd_same, ((x3.trans x4).trans x5) b1' _ upd_same, (x4.trans x5) b2' _ upd_same⟩
    have d13 : ∀ H', Dp K H' x13 .none := fun H' => by
      have e : x13 = .non := p13
      rw [e]
      exact .non
    exact ⟨l3, l4, _, rfl, .lst (SqL.of (x25 l3 _ upd_same)) (.cons (dp_part (p11.same ((s1113.trans w6).trans x25))) (.cons (dpc _) (.cons (d13 _) .nil))), .lst (SqL.of upd_same) (.cons (dp_part pdue') (.cons (.bl true) (.cons .non .nil))), okB, q _⟩
end
end K90
namespace K90
open PySem PySem.Spec PyProof.Rows L2
theorem all_mk {l : PySem.W.OpenLaw} {w : World} {K : PySem.W.Frag} {h : Heap} {mg : Str → Option Value} {fa f0 f1 f2 f3 f4 f5 f6 f7 f8 f9 f10 f11 f12 f13 f14 f15 f16 f17 f18 f19 f20 f21 f22 f23 f24 f25 f26 f27 f28 f29 : Addr} {t4 t7 : Tok} (X : K.In h) (G : h.Ns mainGlobals mg) (hfa : mg "law" = some (.ref fa))
    {od0 an0 od1 an1 od2 an2 od3 an3 od4 an4 od5 an5 od6 an6 od7 an7 od8 an8 od9 an9 od10 an10 od11 an11 od12 an12 od13 an13 od14 an14 od15 an15 od16 an16 od17 an17 od18 an18 od19 an19 od20 an20 od21 an21 od22 an22 od23 an23 od24 an24 od25 an25 od26 an26 od27 an27 od28 an28 od29 an29 : Option Addr} {sl0 sl1 sl2 sl3 sl4 sl5 sl6 sl7 sl8 sl9 sl10 sl11 sl12 sl13 sl14 sl15 sl16 sl17 sl18 sl19 sl20 sl21 sl22 sl23 sl24 sl25 sl26 sl27 sl28 sl29 : Array (Option Value)} {oc0 kV0 dc0 pm0 cd0 ct0 oc1 kV1 dc1 pm1 cd1 ct1 oc2 kV2 dc2 pm2 cd2 ct2 oc3 kV3 dc3 pm3 cd3 ct3 oc4 kV4 dc4 pm4 cd4 ct4 oc5 kV5 dc5 pm5 cd5 ct5 oc6 kV6 dc6 pm6 cd6 ct6 oc7 kV7 dc7 pm7 cd7 ct7 oc8 kV8 dc8 pm8 cd8 ct8 oc9 kV9 dc9 pm9 cd9 ct9 oc10 kV10 dc10 pm10 cd10 ct10 oc11 kV11 dc11 pm11 cd11 ct11 oc12 kV12 dc12 pm12 cd12 ct12 oc13 kV13 dc13 pm13 cd13 ct13 oc14 kV14 dc14 pm14 cd14 ct14 oc15 kV15 dc15 pm15 cd15 ct15 oc16 kV16 dc16 pm16 cd16 ct16 oc17 kV17 dc17 pm17 cd17 ct17 oc18 kV18 dc18 pm18 cd18 ct18 oc19 kV19 dc19 pm19 cd19 ct19 oc20 kV20 dc20 pm20 cd20 ct20 oc21 kV21 dc21 pm21 cd21 ct21 oc22 kV22 dc22 pm22 cd22 ct22 oc23 kV23 dc23 pm23 cd23 ct23 oc24 kV24 dc24 pm24 cd24 ct24 oc25 kV25 dc25 pm25 cd25 ct25 oc26 kV26 dc26 pm26 cd26 ct26 oc27 kV27 dc27 pm27 cd27 ct27 oc28 kV28 dc28 pm28 cd28 ct28 oc29 kV29 dc29 pm29 cd29 ct29 : Value}
    (a0 : PySem.W.nsIn K mainGlobals "is_whole" = some (some (.ref f0))) (l0 : K.lookup f0 = some ⟨oc0, od0, .func (PySem.W.fnOf "is_whole" "is_whole" (defArgs sis_whole) (defBody sis_whole) (defScope sis_whole) .none kV0 dc0 pm0 an0 cd0 ct0), sl0⟩) (c0 : PySem.W.codeIn K cd0 "is_whole" = true) (k0 : PySem.W.keepIn K (.ref f0) = true)
    (a1 : PySem.W.nsIn K mainGlobals "is_order" = some (some (.ref f1))) (l1 : K.lookup f1 = some ⟨oc1, od1, .func (PySem.W.fnOf "is_order" "is_order" (defArgs sis_order) (defBody sis_order) (defScope sis_order) .none kV1 dc1 pm1 an1 cd1 ct1), sl1⟩) (c1 : PySem.W.codeIn K cd1 "is_order" = true) (k1 : PySem.W.keepIn K (.ref f1) = true)
    (a2 : PySem.W.nsIn K mainGlobals "need_net" = some (some (.ref f2))) (l2 : K.lookup f2 = some ⟨oc2, od2, .func (PySem.W.fnOf "need_net" "need_net" (defArgs sneed_net) (defBody sneed_net) (defScope sneed_net) .none kV2 dc2 pm2 an2 cd2 ct2), sl2⟩) (c2 : PySem.W.codeIn K cd2 "need_net" = true) (k2 : PySem.W.keepIn K (.ref f2) = true)
    (a3 : PySem.W.nsIn K mainGlobals "wires_of" = some (some (.ref f3))) (l3 : K.lookup f3 = some ⟨oc3, od3, .func (PySem.W.fnOf "wires_of" "wires_of" (defArgs swires_of) (defBody swires_of) (defScope swires_of) .none kV3 dc3 pm3 an3 cd3 ct3), sl3⟩) (c3 : PySem.W.codeIn K cd3 "wires_of" = true) (k3 : PySem.W.keepIn K (.ref f3) = true)
    (a4 : PySem.W.nsIn K mainGlobals "next_wires" = some (some (.ref f4))) (l4 : K.lookup f4 = some ⟨oc4, od4, .func (PySem.W.fnOf "next_wires" "next_wires" (defArgs snext_wires) (defBody snext_wires) (defScope snext_wires) .none kV4 dc4 pm4 an4 cd4 ct4), sl4⟩) (c4 : PySem.W.codeIn K cd4 "next_wires" = true) (k4 : PySem.W.keepIn K (.ref f4) = true)
    (a5 : PySem.W.nsIn K mainGlobals "counts_from" = some (some (.ref f5))) (l5 : K.lookup f5 = some ⟨oc5, od5, .func (PySem.W.fnOf "counts_from" "counts_from" (defArgs scounts_from) (defBody scounts_from) (defScope scounts_from) .none kV5 dc5 pm5 an5 cd5 ct5), sl5⟩) (c5 : PySem.W.codeIn K cd5 "counts_from" = true) (k5 : PySem.W.keepIn K (.ref f5) = true)
    (a6 : PySem.W.nsIn K mainGlobals "is_banyan_of" = some (some (.ref f6))) (l6 : K.lookup f6 = some ⟨oc6, od6, .func (PySem.W.fnOf "is_banyan_of" "is_banyan_of" (defArgs sis_banyan_of) (defBody sis_banyan_of) (defScope sis_banyan_of) .none kV6 dc6 pm6 an6 cd6 ct6), sl6⟩) (c6 : PySem.W.codeIn K cd6 "is_banyan_of" = true) (k6 : PySem.W.keepIn K (.ref f6) = true)
    (a7 : PySem.W.nsIn K mainGlobals "need_banyan" = some (some (.ref f7))) (l7 : K.lookup f7 = some ⟨oc7, od7, .func (PySem.W.fnOf "need_banyan" "need_banyan" (defArgs sneed_banyan) (defBody sneed_banyan) (defScope sneed_banyan) .none kV7 dc7 pm7 an7 cd7 ct7), sl7⟩) (c7 : PySem.W.codeIn K cd7 "need_banyan" = true) (k7 : PySem.W.keepIn K (.ref f7) = true)
    (a8 : PySem.W.nsIn K mainGlobals "ways_table" = some (some (.ref f8))) (l8 : K.lookup f8 = some ⟨oc8, od8, .func (PySem.W.fnOf "ways_table" "ways_table" (defArgs sways_table) (defBody sways_table) (defScope sways_table) .none kV8 dc8 pm8 an8 cd8 ct8), sl8⟩) (c8 : PySem.W.codeIn K cd8 "ways_table" = true) (k8 : PySem.W.keepIn K (.ref f8) = true)
    (a9 : PySem.W.nsIn K mainGlobals "is_apart" = some (some (.ref f9))) (l9 : K.lookup f9 = some ⟨oc9, od9, .func (PySem.W.fnOf "is_apart" "is_apart" (defArgs sis_apart) (defBody sis_apart) (defScope sis_apart) .none kV9 dc9 pm9 an9 cd9 ct9), sl9⟩) (c9 : PySem.W.codeIn K cd9 "is_apart" = true) (k9 : PySem.W.keepIn K (.ref f9) = true)
    (a10 : PySem.W.nsIn K mainGlobals "need_pair" = some (some (.ref f10))) (l10 : K.lookup f10 = some ⟨oc10, od10, .func (PySem.W.fnOf "need_pair" "need_pair" (defArgs sneed_pair) (defBody sneed_pair) (defScope sneed_pair) .none kV10 dc10 pm10 an10 cd10 ct10), sl10⟩) (c10 : PySem.W.codeIn K cd10 "need_pair" = true) (k10 : PySem.W.keepIn K (.ref f10) = true)
    (a11 : PySem.W.nsIn K mainGlobals "first_parting" = some (some (.ref f11))) (l11 : K.lookup f11 = some ⟨oc11, od11, .func (PySem.W.fnOf "first_parting" "first_parting" (defArgs sfirst_parting) (defBody sfirst_parting) (defScope sfirst_parting) .none kV11 dc11 pm11 an11 cd11 ct11), sl11⟩) (c11 : PySem.W.codeIn K cd11 "first_parting" = true) (k11 : PySem.W.keepIn K (.ref f11) = true)
    (a12 : PySem.W.nsIn K mainGlobals "parting_demands" = some (some (.ref f12))) (l12 : K.lookup f12 = some ⟨oc12, od12, .func (PySem.W.fnOf "parting_demands" "parting_demands" (defArgs sparting_demands) (defBody sparting_demands) (defScope sparting_demands) .none kV12 dc12 pm12 an12 cd12 ct12), sl12⟩) (c12 : PySem.W.codeIn K cd12 "parting_demands" = true) (k12 : PySem.W.keepIn K (.ref f12) = true)
    (a13 : PySem.W.nsIn K mainGlobals "do_pass_alike" = some (some (.ref f13))) (l13 : K.lookup f13 = some ⟨oc13, od13, .func (PySem.W.fnOf "do_pass_alike" "do_pass_alike" (defArgs sdo_pass_alike) (defBody sdo_pass_alike) (defScope sdo_pass_alike) .none kV13 dc13 pm13 an13 cd13 ct13), sl13⟩) (c13 : PySem.W.codeIn K cd13 "do_pass_alike" = true) (k13 : PySem.W.keepIn K (.ref f13) = true)
    (a14 : PySem.W.nsIn K mainGlobals "_law_mixed" = some (some (.ref f14))) (l14 : K.lookup f14 = some ⟨oc14, od14, .func (PySem.W.fnOf "_law_mixed" "_law_mixed" (defArgs s_law_mixed) (defBody s_law_mixed) (defScope s_law_mixed) .none kV14 dc14 pm14 an14 cd14 ct14), sl14⟩) (c14 : PySem.W.codeIn K cd14 "_law_mixed" = true) (k14 : PySem.W.keepIn K (.ref f14) = true)
    (a15 : PySem.W.nsIn K mainGlobals "_law_folded" = some (some (.ref f15))) (l15 : K.lookup f15 = some ⟨oc15, od15, .func (PySem.W.fnOf "_law_folded" "_law_folded" (defArgs s_law_folded) (defBody s_law_folded) (defScope s_law_folded) .none kV15 dc15 pm15 an15 cd15 ct15), sl15⟩) (c15 : PySem.W.codeIn K cd15 "_law_folded" = true) (k15 : PySem.W.keepIn K (.ref f15) = true)
    (a16 : PySem.W.nsIn K mainGlobals "_law_draw" = some (some (.ref f16))) (l16 : K.lookup f16 = some ⟨oc16, od16, .func (PySem.W.fnOf "_law_draw" "_law_draw" (defArgs s_law_draw) (defBody s_law_draw) (defScope s_law_draw) .none kV16 dc16 pm16 an16 cd16 ct16), sl16⟩) (c16 : PySem.W.codeIn K cd16 "_law_draw" = true) (k16 : PySem.W.keepIn K (.ref f16) = true)
    (a17 : PySem.W.nsIn K mainGlobals "_law_begun" = some (some (.ref f17))) (l17 : K.lookup f17 = some ⟨oc17, od17, .func (PySem.W.fnOf "_law_begun" "_law_begun" (defArgs s_law_begun) (defBody s_law_begun) (defScope s_law_begun) .none kV17 dc17 pm17 an17 cd17 ct17), sl17⟩) (c17 : PySem.W.codeIn K cd17 "_law_begun" = true) (k17 : PySem.W.keepIn K (.ref f17) = true)
    (a18 : PySem.W.nsIn K mainGlobals "_law_like" = some (some (.ref f18))) (l18 : K.lookup f18 = some ⟨oc18, od18, .func (PySem.W.fnOf "_law_like" "_law_like" (defArgs s_law_like) (defBody s_law_like) (defScope s_law_like) .none kV18 dc18 pm18 an18 cd18 ct18), sl18⟩) (c18 : PySem.W.codeIn K cd18 "_law_like" = true) (k18 : PySem.W.keepIn K (.ref f18) = true)
    (a19 : PySem.W.nsIn K mainGlobals "_law_order" = some (some (.ref f19))) (l19 : K.lookup f19 = some ⟨oc19, od19, .func (PySem.W.fnOf "_law_order" "_law_order" (defArgs s_law_order) (defBody s_law_order) (defScope s_law_order) .none kV19 dc19 pm19 an19 cd19 ct19), sl19⟩) (c19 : PySem.W.codeIn K cd19 "_law_order" = true) (k19 : PySem.W.keepIn K (.ref f19) = true)
    (a20 : PySem.W.nsIn K mainGlobals "_law_halving" = some (some (.ref f20))) (l20 : K.lookup f20 = some ⟨oc20, od20, .func (PySem.W.fnOf "_law_halving" "_law_halving" (defArgs s_law_halving) (defBody s_law_halving) (defScope s_law_halving) .none kV20 dc20 pm20 an20 cd20 ct20), sl20⟩) (c20 : PySem.W.codeIn K cd20 "_law_halving" = true) (k20 : PySem.W.keepIn K (.ref f20) = true)
    (a21 : PySem.W.nsIn K mainGlobals "_law_banyan" = some (some (.ref f21))) (l21 : K.lookup f21 = some ⟨oc21, od21, .func (PySem.W.fnOf "_law_banyan" "_law_banyan" (defArgs s_law_banyan) (defBody s_law_banyan) (defScope s_law_banyan) .none kV21 dc21 pm21 an21 cd21 ct21), sl21⟩) (c21 : PySem.W.codeIn K cd21 "_law_banyan" = true) (k21 : PySem.W.keepIn K (.ref f21) = true)
    (a22 : PySem.W.nsIn K mainGlobals "_law_ringed" = some (some (.ref f22))) (l22 : K.lookup f22 = some ⟨oc22, od22, .func (PySem.W.fnOf "_law_ringed" "_law_ringed" (defArgs s_law_ringed) (defBody s_law_ringed) (defScope s_law_ringed) .none kV22 dc22 pm22 an22 cd22 ct22), sl22⟩) (c22 : PySem.W.codeIn K cd22 "_law_ringed" = true) (k22 : PySem.W.keepIn K (.ref f22) = true)
    (a23 : PySem.W.nsIn K mainGlobals "_law_ways" = some (some (.ref f23))) (l23 : K.lookup f23 = some ⟨oc23, od23, .func (PySem.W.fnOf "_law_ways" "_law_ways" (defArgs s_law_ways) (defBody s_law_ways) (defScope s_law_ways) .none kV23 dc23 pm23 an23 cd23 ct23), sl23⟩) (c23 : PySem.W.codeIn K cd23 "_law_ways" = true) (k23 : PySem.W.keepIn K (.ref f23) = true)
    (a24 : PySem.W.nsIn K mainGlobals "_law_apart" = some (some (.ref f24))) (l24 : K.lookup f24 = some ⟨oc24, od24, .func (PySem.W.fnOf "_law_apart" "_law_apart" (defArgs s_law_apart) (defBody s_law_apart) (defScope s_law_apart) .none kV24 dc24 pm24 an24 cd24 ct24), sl24⟩) (c24 : PySem.W.codeIn K cd24 "_law_apart" = true) (k24 : PySem.W.keepIn K (.ref f24) = true)
    (a25 : PySem.W.nsIn K mainGlobals "_law_table" = some (some (.ref f25))) (l25 : K.lookup f25 = some ⟨oc25, od25, .func (PySem.W.fnOf "_law_table" "_law_table" (defArgs s_law_table) (defBody s_law_table) (defScope s_law_table) .none kV25 dc25 pm25 an25 cd25 ct25), sl25⟩) (c25 : PySem.W.codeIn K cd25 "_law_table" = true) (k25 : PySem.W.keepIn K (.ref f25) = true)
    (a26 : PySem.W.nsIn K mainGlobals "_law_demands" = some (some (.ref f26))) (l26 : K.lookup f26 = some ⟨oc26, od26, .func (PySem.W.fnOf "_law_demands" "_law_demands" (defArgs s_law_demands) (defBody s_law_demands) (defScope s_law_demands) .none kV26 dc26 pm26 an26 cd26 ct26), sl26⟩) (c26 : PySem.W.codeIn K cd26 "_law_demands" = true) (k26 : PySem.W.keepIn K (.ref f26) = true)
    (a27 : PySem.W.nsIn K mainGlobals "_law_passes" = some (some (.ref f27))) (l27 : K.lookup f27 = some ⟨oc27, od27, .func (PySem.W.fnOf "_law_passes" "_law_passes" (defArgs s_law_passes) (defBody s_law_passes) (defScope s_law_passes) .none kV27 dc27 pm27 an27 cd27 ct27), sl27⟩) (c27 : PySem.W.codeIn K cd27 "_law_passes" = true) (k27 : PySem.W.keepIn K (.ref f27) = true)
    (a28 : PySem.W.nsIn K mainGlobals "_law_parting" = some (some (.ref f28))) (l28 : K.lookup f28 = some ⟨oc28, od28, .func (PySem.W.fnOf "_law_parting" "_law_parting" (defArgs s_law_parting) (defBody s_law_parting) (defScope s_law_parting) .none kV28 dc28 pm28 an28 cd28 ct28), sl28⟩) (c28 : PySem.W.codeIn K cd28 "_law_parting" = true) (k28 : PySem.W.keepIn K (.ref f28) = true)
    (a29 : PySem.W.nsIn K mainGlobals "law" = some (some (.ref f29))) (l29 : K.lookup f29 = some ⟨oc29, od29, .func (PySem.W.fnOf "law" "law" (defArgs slaw) (defBody slaw) (defScope slaw) .none kV29 dc29 pm29 an29 cd29 ct29), sl29⟩) (c29 : PySem.W.codeIn K cd29 "law" = true) (k29 : PySem.W.keepIn K (.ref f29) = true)
    (z0 : PySem.W.nsIn K mainGlobals "isinstance" = some none)
    (z1 : PySem.W.nsIn K mainGlobals "int" = some none)
    (z2 : PySem.W.nsIn K mainGlobals "bool" = some none)
    (z3 : PySem.W.nsIn K mainGlobals "tuple" = some none)
    (z4 : PySem.W.nsIn K mainGlobals "list" = some none)
    (z5 : PySem.W.nsIn K mainGlobals "len" = some none)
    (z6 : PySem.W.nsIn K mainGlobals "all" = some none)
    (z7 : PySem.W.nsIn K mainGlobals "any" = some none)
    (z8 : PySem.W.nsIn K mainGlobals "set" = some none)
    (z9 : PySem.W.nsIn K mainGlobals "enumerate" = some none)
    (z10 : PySem.W.nsIn K mainGlobals "range" = some none)
    (z11 : PySem.W.nsIn K mainGlobals "sorted" = some none)
    (z12 : PySem.W.nsIn K mainGlobals "repr" = some none)
    (z13 : PySem.W.nsIn K mainGlobals "zip" = some none)
    (z14 : PySem.W.nsIn K mainGlobals "min" = some none)
    (zb : PySem.W.nsIn K mainGlobals "MOST_BITS" = some (some (.int 4 t4))) (zr : PySem.W.nsIn K mainGlobals "MOST_ROWS" = some (some (.int 7 t7))) :
    ∃ fd : FuncData, (∀ (s : Shared) (v : Value), BindsTo s fd ⟨[v], []⟩ [("_law_script", v)]) ∧ ∀ base : Heap, K.In base → base.Ns mainGlobals mg → RunG l.prog w K mg base 7 fa fd ["_law_script"] (spLaw K) := by
  have e := hfa.symm.trans (PySem.W.mg_of X G a29)
  cases e
  have T : Glob mg := ⟨PySem.W.mg_none_of X G z0, PySem.W.mg_none_of X G z1, PySem.W.mg_none_of X G z2, PySem.W.mg_none_of X G z3, PySem.W.mg_none_of X G z4, PySem.W.mg_none_of X G z5, PySem.W.mg_none_of X G z6, PySem.W.mg_none_of X G z7, PySem.W.mg_none_of X G z8, PySem.W.mg_none_of X G z9, PySem.W.mg_none_of X G z10, PySem.W.mg_none_of X G z11, PySem.W.mg_none_of X G z12, PySem.W.mg_none_of X G z13, PySem.W.mg_none_of X G z14, ⟨t4, PySem.W.mg_of X G zb⟩, ⟨t7, PySem.W.mg_of X G zr⟩⟩
  have F0 := fun_mk (st := sis_whole) l0 c0 k0
  have D0 : DefAt K mg "is_whole" sis_whole ["value", "least", "most"] _ _ := ⟨F0, PySem.W.mg_of X G a0, F0.binds (ps := ["value", "least", "most"]) fun _ _ _ _ _ _ us hl => match us, hl with | [_, _, _], _ => rfl⟩
  have F1 := fun_mk (st := sis_order) l1 c1 k1
  have D1 : DefAt K mg "is_order" sis_order ["value", "many"] _ _ := ⟨F1, PySem.W.mg_of X G a1, F1.binds (ps := ["value", "many"]) fun _ _ _ _ _ _ us hl => match us, hl with | [_, _], _ => rfl⟩
  have F2 := fun_mk (st := sneed_net) l2 c2 k2
  have D2 : DefAt K mg "need_net" sneed_net ["net"] _ _ := ⟨F2, PySem.W.mg_of X G a2, F2.binds (ps := ["net"]) fun _ _ _ _ _ _ us hl => match us, hl with | [_], _ => rfl⟩
  have F3 := fun_mk (st := swires_of) l3 c3 k3
  have D3 : DefAt K mg "wires_of" swires_of ["net"] _ _ := ⟨F3, PySem.W.mg_of X G a3, F3.binds (ps := ["net"]) fun _ _ _ _ _ _ us hl => match us, hl with | [_], _ => rfl⟩
  have F4 := fun_mk (st := snext_wires) l4 c4 k4
  have D4 : DefAt K mg "next_wires" snext_wires ["net", "row", "wire"] _ _ := ⟨F4, PySem.W.mg_of X G a4, F4.binds (ps := ["net", "row", "wire"]) fun _ _ _ _ _ _ us hl => match us, hl with | [_, _, _], _ => rfl⟩
  have F5 := fun_mk (st := scounts_from) l5 c5 k5
  have D5 : DefAt K mg "counts_from" scounts_from ["net", "begin"] _ _ := ⟨F5, PySem.W.mg_of X G a5, F5.binds (ps := ["net", "begin"]) fun _ _ _ _ _ _ us hl => match us, hl with | [_, _], _ => rfl⟩
  have F6 := fun_mk (st := sis_banyan_of) l6 c6 k6
  have D6 : DefAt K mg "is_banyan_of" sis_banyan_of ["net"] _ _ := ⟨F6, PySem.W.mg_of X G a6, F6.binds (ps := ["net"]) fun _ _ _ _ _ _ us hl => match us, hl with | [_], _ => rfl⟩
  have F7 := fun_mk (st := sneed_banyan) l7 c7 k7
  have D7 : DefAt K mg "need_banyan" sneed_banyan ["net"] _ _ := ⟨F7, PySem.W.mg_of X G a7, F7.binds (ps := ["net"]) fun _ _ _ _ _ _ us hl => match us, hl with | [_], _ => rfl⟩
  have F8 := fun_mk (st := sways_table) l8 c8 k8
  have D8 : DefAt K mg "ways_table" sways_table ["net"] _ _ := ⟨F8, PySem.W.mg_of X G a8, F8.binds (ps := ["net"]) fun _ _ _ _ _ _ us hl => match us, hl with | [_], _ => rfl⟩
  have F9 := fun_mk (st := sis_apart) l9 c9 k9
  have D9 : DefAt K mg "is_apart" sis_apart ["way", "others"] _ _ := ⟨F9, PySem.W.mg_of X G a9, F9.binds (ps := ["way", "others"]) fun _ _ _ _ _ _ us hl => match us, hl with | [_, _], _ => rfl⟩
  have F10 := fun_mk (st := sneed_pair) l10 c10 k10
  have D10 : DefAt K mg "need_pair" sneed_pair ["net", "other"] _ _ := ⟨F10, PySem.W.mg_of X G a10, F10.binds (ps := ["net", "other"]) fun _ _ _ _ _ _ us hl => match us, hl with | [_, _], _ => rfl⟩
  have F11 := fun_mk (st := sfirst_parting) l11 c11 k11
  have D11 : DefAt K mg "first_parting" sfirst_parting ["net", "other"] _ _ := ⟨F11, PySem.W.mg_of X G a11, F11.binds (ps := ["net", "other"]) fun _ _ _ _ _ _ us hl => match us, hl with | [_, _], _ => rfl⟩
  have F12 := fun_mk (st := sparting_demands) l12 c12 k12
  have D12 : DefAt K mg "parting_demands" sparting_demands ["net", "other"] _ _ := ⟨F12, PySem.W.mg_of X G a12, F12.binds (ps := ["net", "other"]) fun _ _ _ _ _ _ us hl => match us, hl with | [_, _], _ => rfl⟩
  have F13 := fun_mk (st := sdo_pass_alike) l13 c13 k13
  have D13 : DefAt K mg "do_pass_alike" sdo_pass_alike ["net", "other"] _ _ := ⟨F13, PySem.W.mg_of X G a13, F13.binds (ps := ["net", "other"]) fun _ _ _ _ _ _ us hl => match us, hl with | [_, _], _ => rfl⟩
  have F14 := fun_mk (st := s_law_mixed) l14 c14 k14
  have D14 : DefAt K mg "_law_mixed" s_law_mixed ["_law_cell", "_law_n"] _ _ := ⟨F14, PySem.W.mg_of X G a14, F14.binds (ps := ["_law_cell", "_law_n"]) fun _ _ _ _ _ _ us hl => match us, hl with | [_, _], _ => rfl⟩
  have F15 := fun_mk (st := s_law_folded) l15 c15 k15
  have D15 : DefAt K mg "_law_folded" s_law_folded ["_law_script"] _ _ := ⟨F15, PySem.W.mg_of X G a15, F15.binds (ps := ["_law_script"]) fun _ _ _ _ _ _ us hl => match us, hl with | [_], _ => rfl⟩
  have F16 := fun_mk (st := s_law_draw) l16 c16 k16
  have D16 : DefAt K mg "_law_draw" s_law_draw ["_law_m", "_law_limit"] _ _ := ⟨F16, PySem.W.mg_of X G a16, F16.binds (ps := ["_law_m", "_law_limit"]) fun _ _ _ _ _ _ us hl => match us, hl with | [_, _], _ => rfl⟩
  have F17 := fun_mk (st := s_law_begun) l17 c17 k17
  have D17 : DefAt K mg "_law_begun" s_law_begun ["_law_script"] _ _ := ⟨F17, PySem.W.mg_of X G a17, F17.binds (ps := ["_law_script"]) fun _ _ _ _ _ _ us hl => match us, hl with | [_], _ => rfl⟩
  have F18 := fun_mk (st := s_law_like) l18 c18 k18
  have D18 : DefAt K mg "_law_like" s_law_like ["_law_answer", "_law_due"] _ _ := ⟨F18, PySem.W.mg_of X G a18, F18.binds (ps := ["_law_answer", "_law_due"]) fun _ _ _ _ _ _ us hl => match us, hl with | [_, _], _ => rfl⟩
  have F19 := fun_mk (st := s_law_order) l19 c19 k19
  have D19 : DefAt K mg "_law_order" s_law_order ["_law_m", "_law_many"] _ _ := ⟨F19, PySem.W.mg_of X G a19, F19.binds (ps := ["_law_m", "_law_many"]) fun _ _ _ _ _ _ us hl => match us, hl with | [_, _], _ => rfl⟩
  have F20 := fun_mk (st := s_law_halving) l20 c20 k20
  have D20 : DefAt K mg "_law_halving" s_law_halving ["_law_bits"] _ _ := ⟨F20, PySem.W.mg_of X G a20, F20.binds (ps := ["_law_bits"]) fun _ _ _ _ _ _ us hl => match us, hl with | [_], _ => rfl⟩
  have F21 := fun_mk (st := s_law_banyan) l21 c21 k21
  have D21 : DefAt K mg "_law_banyan" s_law_banyan ["_law_m", "_law_bits"] _ _ := ⟨F21, PySem.W.mg_of X G a21, F21.binds (ps := ["_law_m", "_law_bits"]) fun _ _ _ _ _ _ us hl => match us, hl with | [_, _], _ => rfl⟩
  have F22 := fun_mk (st := s_law_ringed) l22 c22 k22
  have D22 : DefAt K mg "_law_ringed" s_law_ringed [] _ _ := ⟨F22, PySem.W.mg_of X G a22, F22.binds (ps := []) fun _ _ _ _ _ _ us hl => match us, hl with | [], _ => rfl⟩
  have F23 := fun_mk (st := s_law_ways) l23 c23 k23
  have D23 : DefAt K mg "_law_ways" s_law_ways ["_law_net", "_law_begin"] _ _ := ⟨F23, PySem.W.mg_of X G a23, F23.binds (ps := ["_law_net", "_law_begin"]) fun _ _ _ _ _ _ us hl => match us, hl with | [_, _], _ => rfl⟩
  have F24 := fun_mk (st := s_law_apart) l24 c24 k24
  have D24 : DefAt K mg "_law_apart" s_law_apart ["_law_way", "_law_others"] _ _ := ⟨F24, PySem.W.mg_of X G a24, F24.binds (ps := ["_law_way", "_law_others"]) fun _ _ _ _ _ _ us hl => match us, hl with | [_, _], _ => rfl⟩
  have F25 := fun_mk (st := s_law_table) l25 c25 k25
  have D25 : DefAt K mg "_law_table" s_law_table ["_law_net"] _ _ := ⟨F25, PySem.W.mg_of X G a25, F25.binds (ps := ["_law_net"]) fun _ _ _ _ _ _ us hl => match us, hl with | [_], _ => rfl⟩
  have F26 := fun_mk (st := s_law_demands) l26 c26 k26
  have D26 : DefAt K mg "_law_demands" s_law_demands ["_law_m", "_law_net", "_law_tries"] _ _ := ⟨F26, PySem.W.mg_of X G a26, F26.binds (ps := ["_law_m", "_law_net", "_law_tries"]) fun _ _ _ _ _ _ us hl => match us, hl with | [_, _, _], _ => rfl⟩
  have F27 := fun_mk (st := s_law_passes) l27 c27 k27
  have D27 : DefAt K mg "_law_passes" s_law_passes ["_law_net", "_law_some"] _ _ := ⟨F27, PySem.W.mg_of X G a27, F27.binds (ps := ["_law_net", "_law_some"]) fun _ _ _ _ _ _ us hl => match us, hl with | [_, _], _ => rfl⟩
  have F28 := fun_mk (st := s_law_parting) l28 c28 k28
  have D28 : DefAt K mg "_law_parting" s_law_parting ["_law_net", "_law_other"] _ _ := ⟨F28, PySem.W.mg_of X G a28, F28.binds (ps := ["_law_net", "_law_other"]) fun _ _ _ _ _ _ us hl => match us, hl with | [_, _], _ => rfl⟩
  have F29 := fun_mk (st := slaw) l29 c29 k29
  have D29 : DefAt K mg "law" slaw ["_law_script"] _ _ := ⟨F29, PySem.W.mg_of X G a29, F29.binds (ps := ["_law_script"]) fun _ _ _ _ _ _ us hl => match us, hl with | [_], _ => rfl⟩
  refine ⟨PySem.W.fnOf "law" "law" (defArgs slaw) (defBody slaw) (defScope slaw) .none kV29 dc29 pm29 an29 cd29 ct29, fun s v => .of_eq rfl, fun base _ _ => ?_⟩
  have Ris_whole := ok_is_whole (P := l.prog) (w := w) (base := base) T D0
  have Rwires_of := ok_wires_of (P := l.prog) (w := w) (base := base) D3
  have Rnext_wires := ok_next_wires (P := l.prog) (w := w) (base := base) D4
  have Ris_order := ok_is_order (P := l.prog) (w := w) (base := base) T D1 Ris_whole
  have Rneed_net := ok_need_net (P := l.prog) (w := w) (base := base) T D2 Ris_whole Ris_order Rwires_of
  have Rcounts_from := ok_counts_from (P := l.prog) (w := w) (base := base) T D5 Rwires_of Rnext_wires
  have Ris_banyan_of := ok_is_banyan_of (P := l.prog) (w := w) (base := base) T D6 Rwires_of Rcounts_from
  have Rneed_banyan := ok_need_banyan (P := l.prog) (w := w) (base := base) D7 Ris_banyan_of Rneed_net
  have Rneed_pair := ok_need_pair (P := l.prog) (w := w) (base := base) D10 Rneed_banyan Rneed_net
  have Ris_apart := ok_is_apart (P := l.prog) (w := w) (base := base) T D9
  have Rways_table := ok_ways_table (P := l.prog) (w := w) (base := base) T D8 Rwires_of Rnext_wires
  have Rfirst_parting := ok_first_parting (P := l.prog) (w := w) (base := base) T D11 Rways_table Ris_apart
  have Rparting_demands := ok_parting_demands (P := l.prog) (w := w) (base := base) D12 Rneed_pair Rfirst_parting
  have Rdo_pass_alike := ok_do_pass_alike (P := l.prog) (w := w) (base := base) D13 Rneed_pair Rfirst_parting
  have R_law_ways := ok__law_ways (P := l.prog) (w := w) (base := base) T D23
  have R_law_apart := ok__law_apart (P := l.prog) (w := w) (base := base) T D24
  have R_law_table := ok__law_table (P := l.prog) (w := w) (base := base) T D25 R_law_ways
  have R_law_passes := ok__law_passes (P := l.prog) (w := w) (base := base) T D27 R_law_ways R_law_apart
  have R_law_parting := ok__law_parting (P := l.prog) (w := w) (base := base) T D28 R_law_table R_law_apart
  have R_law_mixed := ok__law_mixed (P := l.prog) (w := w) (base := base) T D14
  have R_law_folded := ok__law_folded (P := l.prog) (w := w) (base := base) T D15
  have R_law_begun := ok__law_begun (P := l.prog) (w := w) (base := base) T D17 R_law_folded
  have R_law_draw := ok__law_draw (P := l.prog) (w := w) (base := base) T D16 R_law_mixed
  have R_law_order := ok__law_order (P := l.prog) (w := w) (base := base) T D19 R_law_draw
  have R_law_ringed := ok__law_ringed (P := l.prog) (w := w) (base := base) D22
  have R_law_halving := ok__law_halving (P := l.prog) (w := w) (base := base) T D20
  have R_law_banyan := ok__law_banyan (P := l.prog) (w := w) (base := base) T D21 R_law_draw R_law_order R_law_halving
  have R_law_demands := ok__law_demands (P := l.prog) (w := w) (base := base) T D26 R_law_draw
  have R_law_like := ok__law_like (P := l.prog) (w := w) (base := base) T D18
  exact ok_law T D29 R_law_begun R_law_draw R_law_banyan R_law_ringed R_law_parting Rparting_demands Rdo_pass_alike R_law_like R_law_demands R_law_passes R_law_halving
end K90

open PySem PySem.W PyProof.Rows in
set_option maxRecDepth 100000 in
set_option maxHeartbeats 0 in
theorem PySem.Challenge.cw_bitswitches_k90_whole_parting_demands_holds : PySem.Challenge.rw_bitswitches_k90_whole_parting_demands.Holds := by
  w_on; o_law; k_head; (case hw => w_witness2)
  k_fill
  refine K90.walk_ofG (l := PySem.Challenge.rw_bitswitches_k90_whole_parting_demands) (n := 63) (k := 7) (x := "_law_script") (sp := K90.spLaw) rfl (by decide) rfl ⟨rfl, by decide, by decide⟩ (fun w h Y => PySem.W.kIn_of Y) ?F (fun K H a ns hl hS => ⟨a, ns, rfl, hS, hl, fun _ => rfl⟩)
  case F =>
    intro w mg fa h KX G hmg
    refine' K90.all_mk KX G hmg ?a0 ?l0 ?c0 ?k0 ?a1 ?l1 ?c1 ?k1 ?a2 ?l2 ?c2 ?k2 ?a3 ?l3 ?c3 ?k3 ?a4 ?l4 ?c4 ?k4 ?a5 ?l5 ?c5 ?k5 ?a6 ?l6 ?c6 ?k6 ?a7 ?l7 ?c7 ?k7 ?a8 ?l8 ?c8 ?k8 ?a9 ?l9 ?c9 ?k9 ?a10 ?l10 ?c10 ?k10 ?a11 ?l11 ?c11 ?k11 ?a12 ?l12 ?c12 ?k12 ?a13 ?l13 ?c13 ?k13 ?a14 ?l14 ?c14 ?k14 ?a15 ?l15 ?c15 ?k15 ?a16 ?l16 ?c16 ?k16 ?a17 ?l17 ?c17 ?k17 ?a18 ?l18 ?c18 ?k18 ?a19 ?l19 ?c19 ?k19 ?a20 ?l20 ?c20 ?k20 ?a21 ?l21 ?c21 ?k21 ?a22 ?l22 ?c22 ?k22 ?a23 ?l23 ?c23 ?k23 ?a24 ?l24 ?c24 ?k24 ?a25 ?l25 ?c25 ?k25 ?a26 ?l26 ?c26 ?k26 ?a27 ?l27 ?c27 ?k27 ?a28 ?l28 ?c28 ?k28 ?a29 ?l29 ?c29 ?k29 ?z0 ?z1 ?z2 ?z3 ?z4 ?z5 ?z6 ?z7 ?z8 ?z9 ?z10 ?z11 ?z12 ?z13 ?z14 ?zb ?zr
    (case a0 => k_is)
    (case l0 => k_is)
    (case c0 => k_is)
    (case k0 => k_is)
    (case a1 => k_is)
    (case l1 => k_is)
    (case c1 => k_is)
    (case k1 => k_is)
    (case a2 => k_is)
    (case l2 => k_is)
    (case c2 => k_is)
    (case k2 => k_is)
    (case a3 => k_is)
    (case l3 => k_is)
    (case c3 => k_is)
    (case k3 => k_is)
    (case a4 => k_is)
    (case l4 => k_is)
    (case c4 => k_is)
    (case k4 => k_is)
    (case a5 => k_is)
    (case l5 => k_is)
    (case c5 => k_is)
    (case k5 => k_is)
    (case a6 => k_is)
    (case l6 => k_is)
    (case c6 => k_is)
    (case k6 => k_is)
    (case a7 => k_is)
    (case l7 => k_is)
    (case c7 => k_is)
    (case k7 => k_is)
    (case a8 => k_is)
    (case l8 => k_is)
    (case c8 => k_is)
    (case k8 => k_is)
    (case a9 => k_is)
    (case l9 => k_is)
    (case c9 => k_is)
    (case k9 => k_is)
    (case a10 => k_is)
    (case l10 => k_is)
    (case c10 => k_is)
    (case k10 => k_is)
    (case a11 => k_is)
    (case l11 => k_is)
    (case c11 => k_is)
    (case k11 => k_is)
    (case a12 => k_is)
    (case l12 => k_is)
    (case c12 => k_is)
    (case k12 => k_is)
    (case a13 => k_is)
    (case l13 => k_is)
    (case c13 => k_is)
    (case k13 => k_is)
    (case a14 => k_is)
    (case l14 => k_is)
    (case c14 => k_is)
    (case k14 => k_is)
    (case a15 => k_is)
    (case l15 => k_is)
    (case c15 => k_is)
    (case k15 => k_is)
    (case a16 => k_is)
    (case l16 => k_is)
    (case c16 => k_is)
    (case k16 => k_is)
    (case a17 => k_is)
    (case l17 => k_is)
    (case c17 => k_is)
    (case k17 => k_is)
    (case a18 => k_is)
    (case l18 => k_is)
    (case c18 => k_is)
    (case k18 => k_is)
    (case a19 => k_is)
    (case l19 => k_is)
    (case c19 => k_is)
    (case k19 => k_is)
    (case a20 => k_is)
    (case l20 => k_is)
    (case c20 => k_is)
    (case k20 => k_is)
    (case a21 => k_is)
    (case l21 => k_is)
    (case c21 => k_is)
    (case k21 => k_is)
    (case a22 => k_is)
    (case l22 => k_is)
    (case c22 => k_is)
    (case k22 => k_is)
    (case a23 => k_is)
    (case l23 => k_is)
    (case c23 => k_is)
    (case k23 => k_is)
    (case a24 => k_is)
    (case l24 => k_is)
    (case c24 => k_is)
    (case k24 => k_is)
    (case a25 => k_is)
    (case l25 => k_is)
    (case c25 => k_is)
    (case k25 => k_is)
    (case a26 => k_is)
    (case l26 => k_is)
    (case c26 => k_is)
    (case k26 => k_is)
    (case a27 => k_is)
    (case l27 => k_is)
    (case c27 => k_is)
    (case k27 => k_is)
    (case a28 => k_is)
    (case l28 => k_is)
    (case c28 => k_is)
    (case k28 => k_is)
    (case a29 => k_is)
    (case l29 => k_is)
    (case c29 => k_is)
    (case k29 => k_is)
    (case z0 => k_is)
    (case z1 => k_is)
    (case z2 => k_is)
    (case z3 => k_is)
    (case z4 => k_is)
    (case z5 => k_is)
    (case z6 => k_is)
    (case z7 => k_is)
    (case z8 => k_is)
    (case z9 => k_is)
    (case z10 => k_is)
    (case z11 => k_is)
    (case z12 => k_is)
    (case z13 => k_is)
    (case z14 => k_is)
    (case zb => k_is)
    (case zr => k_is)
