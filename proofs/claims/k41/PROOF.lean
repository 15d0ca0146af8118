import PyProof.Rows.All
import Wide.All
import OpenK.AllK
import Wide.FinOn
import PySem.Challenge.RW_allbide_k41_whole_what_commuting_does
import KE.GoesEnum
import HandS.ForMost
import HandS.Walk
import HandS.DictComp
import HandS.IsInst
import HandS.TupAny
import HandS.NoneIn
import HandS.Style
import HandS.Evl
set_option Elab.async false
set_option linter.all false
set_option maxRecDepth 100000
set_option maxHeartbeats 4000000
/-! The plain law: association lists, tight bounds, steps. -/
namespace AB
structure Rule where
  s : Nat
  e : Nat
  lo : Option Int
  hi : Option Int
deriving DecidableEq
abbrev Edge := Nat × Nat × Int
abbrev WK := Nat × Nat
abbrev WD := List (WK × Int)
def look : WD → WK → Option Int
  | [], _ => none
  | kv :: r, k => if kv.1 = k then some kv.2 else look r k
def has (D : WD) (k : WK) : Bool := (look D k).isSome
def repl (D : WD) (k : WK) (v : Int) : WD := D.map fun kv => if kv.1 = k then (kv.1, v) else kv
def put (D : WD) (k : WK) (v : Int) : WD := if has D k = true then repl D k v else D ++ [(k, v)]
def edgesOf (r : Rule) : List Edge :=
  (match r.hi with | some h => [(r.s, r.e, h)] | none => []) ++ (match r.lo with | some l => [(r.e, r.s, 0 - l)] | none => [])
def edgesM (rs : List Rule) : List Edge := rs.flatMap edgesOf
def better (o : Option Int) (x : Int) : Bool := match o with
  | none => true
  | some y => decide (x < y)
def relax (i here : Nat) (L : Int) (acc : WD) (e : Edge) : WD :=
  if e.1 = here ∧ better (look acc (i, e.2.1)) (L + e.2.2) = true then put acc (i, e.2.1) (L + e.2.2) else acc
def val (D : WD) (k : WK) : Int := (look D k).getD 0
def longer1 (E : List Edge) (D : WD) (acc : WD) (kv : WK × Int) : WD := E.foldl (relax kv.1.1 kv.1.2 (val D kv.1)) acc
def longer (E : List Edge) (D : WD) : WD := D.foldl (longer1 E D) []
def initM (n : Nat) : WD := (List.range n).foldl (fun acc i => put acc (i, i) 0) []
def copyM (D : WD) : WD := D.foldl (fun acc kv => put acc kv.1 (val D kv.1)) []
def merge1 (W best : WD) (kv : WK × Int) : WD :=
  if better (look best kv.1) (val W kv.1) = true then put (copyM best) kv.1 (val W kv.1) else best
def mergeM (best W : WD) : WD := W.foldl (merge1 W) best
def iterL (E : List Edge) (n : Nat) : Nat → WD
  | 0 => initM n
  | k + 1 => longer E (iterL E n k)
def shortS (E : List Edge) (n : Nat) : Nat → WD
  | 0 => initM n
  | k + 1 => mergeM (shortS E n k) (iterL E n (k + 1))
def shortest (n : Nat) (E : List Edge) : WD := shortS E n (n - 1)
def boundsM (n : Nat) (E : List Edge) : List (List (Option Int)) :=
  (List.range n).map fun i => (List.range n).map fun j => look (shortest n E) (i, j)
/-! ### tables -/
theorem look_mem : ∀ {D : WD} {k : WK} {v : Int}, look D k = some v → (k, v) ∈ D
  | [], _, _, h => nomatch h
  | kv :: r, k, v, h => by
    unfold look at h
    by_cases e : kv.1 = k
    · rw [if_pos e] at h
      cases h
      subst e
      exact List.mem_cons_self
    · rw [if_neg e] at h
      exact List.mem_cons_of_mem _ (look_mem h)
theorem mem_look : ∀ {D : WD} {k : WK} {v : Int}, (k, v) ∈ D → ∃ u, look D k = some u
  | [], _, _, h => nomatch h
  | kv :: r, k, v, h => by
    unfold look
    by_cases e : kv.1 = k
    · exact ⟨kv.2, if_pos e⟩
    · rw [if_neg e]
      rcases List.mem_cons.mp h with z | z
      · exact absurd (by rw [← z]) e
      · exact mem_look z
theorem put_mem {D : WD} {k : WK} {v : Int} {p : WK × Int} (h : p ∈ put D k v) : p ∈ D ∨ p = (k, v) := by
  unfold put at h
  split at h
  · obtain ⟨q, hq, e⟩ := List.mem_map.mp h
    by_cases c : q.1 = k
    · rw [if_pos c] at e
      exact .inr (by rw [← e, c])
    · rw [if_neg c] at e
      exact .inl (e ▸ hq)
  · rcases List.mem_append.mp h with z | z
    · exact .inl z
    · exact .inr (List.mem_singleton.mp z)
theorem put_len (D : WD) (k : WK) (v : Int) : (put D k v).length ≤ D.length + 1 := by
  unfold put repl
  split
  · rw [List.length_map]; omega
  · rw [List.length_append]; exact Nat.le_refl _
/-! ### lower bounds -/
def tt (t : List Int) (i : Nat) : Int := t.getD i 0
def Low (t : List Int) (D : WD) : Prop := ∀ p ∈ D, tt t p.1.2 - tt t p.1.1 ≤ p.2
def LowE (t : List Int) (E : List Edge) : Prop := ∀ e ∈ E, tt t e.2.1 - tt t e.1 ≤ e.2.2
theorem Low.nil (t : List Int) : Low t [] := fun _ h => nomatch h
theorem Low.put {t : List Int} {D : WD} {k : WK} {v : Int} (h : Low t D) (hv : tt t k.2 - tt t k.1 ≤ v) : Low t (put D k v) := fun p hp => by
  rcases put_mem hp with z | z
  · exact h p z
  · rw [z]; exact hv
theorem Low.val {t : List Int} {D : WD} {k : WK} {v : Int} (h : Low t D) (hk : (k, v) ∈ D) : tt t k.2 - tt t k.1 ≤ val D k := by
  obtain ⟨u, hu⟩ := mem_look hk
  unfold AB.val
  rw [hu]
  exact h _ (look_mem hu)
theorem foldl_inv {α β : Type} {P : β → Prop} {f : β → α → β} : ∀ {l : List α} {b : β}, P b → (∀ b a, a ∈ l → P b → P (f b a)) → P (l.foldl f b)
  | [], _, h, _ => h
  | a :: r, b, h, hs => foldl_inv (l := r) (hs b a List.mem_cons_self h) fun b' a' ha => hs b' a' (List.mem_cons_of_mem _ ha)
theorem Low.relax {t : List Int} {acc : WD} {e : Edge} {i here : Nat} {L : Int} (h : Low t acc) (hL : tt t here - tt t i ≤ L) (he : tt t e.2.1 - tt t e.1 ≤ e.2.2) : Low t (relax i here L acc e) := by
  unfold AB.relax
  split
  · rename_i c
    refine h.put ?_
    have c1 := c.1
    show tt t e.2.1 - tt t i ≤ L + e.2.2
    rw [c1] at he
    omega
  · exact h
theorem Low.longer {t : List Int} {D : WD} {E : List Edge} (h : Low t D) (hE : LowE t E) : Low t (longer E D) :=
  foldl_inv (Low.nil t) fun b kv hkv hb => foldl_inv hb fun b' e he hb' => hb'.relax (h.val (k := kv.1) (v := kv.2) hkv) (hE e he)
theorem Low.initM (t : List Int) (n : Nat) : Low t (initM n) := foldl_inv (Low.nil t) fun b i _ hb => hb.put (by show tt t i - tt t i ≤ 0; omega)
theorem Low.copy {t : List Int} {D : WD} (h : Low t D) : Low t (copyM D) := foldl_inv (Low.nil t) fun b kv hkv hb => hb.put (h.val (k := kv.1) (v := kv.2) hkv)
theorem Low.merge {t : List Int} {best W : WD} (h : Low t best) (hW : Low t W) : Low t (mergeM best W) := foldl_inv h fun b kv hkv hb => by
  unfold merge1
  split
  · exact hb.copy.put (hW.val (k := kv.1) (v := kv.2) hkv)
  · exact hb
theorem Low.iterL {t : List Int} {E : List Edge} (hE : LowE t E) (n : Nat) : ∀ k, Low t (iterL E n k)
  | 0 => Low.initM t n
  | k + 1 => (Low.iterL hE n k).longer hE
theorem Low.shortS {t : List Int} {E : List Edge} (hE : LowE t E) (n : Nat) : ∀ k, Low t (shortS E n k)
  | 0 => Low.initM t n
  | k + 1 => (Low.shortS hE n k).merge (Low.iterL hE n (k + 1))
theorem Low.look {t : List Int} {D : WD} {i j : Nat} {v : Int} (h : Low t D) (e : look D (i, j) = some v) : tt t j - tt t i ≤ v := h _ (look_mem e)
/-! ### sizes -/
theorem foldl_len {α : Type} {f : WD → α → WD} {m : Nat} (hs : ∀ b a, (f b a).length ≤ b.length + m) : ∀ (l : List α) (b : WD), (l.foldl f b).length ≤ b.length + l.length * m
  | [], b => by show b.length ≤ b.length + 0 * m; omega
  | a :: r, b => by
    have h1 := foldl_len hs r (f b a)
    have h2 := hs b a
    show (r.foldl f (f b a)).length ≤ b.length + (r.length + 1) * m
    rw [Nat.add_mul]
    omega
theorem relax_len (i here : Nat) (L : Int) (acc : WD) (e : Edge) : (relax i here L acc e).length ≤ acc.length + 1 := by
  unfold relax
  split
  · exact put_len _ _ _
  · omega
theorem longer1_len (E : List Edge) (D acc : WD) (kv : WK × Int) : (longer1 E D acc kv).length ≤ acc.length + E.length := by
  have h := foldl_len (fun b a => relax_len kv.1.1 kv.1.2 (val D kv.1) b a) E acc
  unfold longer1
  omega
theorem longer_len (E : List Edge) (D : WD) : (longer E D).length ≤ D.length * E.length := by
  have h := foldl_len (fun b a => longer1_len E D b a) D []
  unfold longer
  simpa using h
theorem init_len (n : Nat) : (initM n).length ≤ n := by
  have h := foldl_len (f := fun acc (i : Nat) => put acc (i, i) 0) (fun b a => put_len b (a, a) 0) (List.range n) []
  unfold initM
  simpa using h
theorem copy_len (D : WD) : (copyM D).length ≤ D.length := by
  have h := foldl_len (f := fun acc (kv : WK × Int) => put acc kv.1 (val D kv.1)) (fun b a => put_len b a.1 (val D a.1)) D []
  unfold copyM
  simpa using h
theorem merge1_len (W best : WD) (kv : WK × Int) : (merge1 W best kv).length ≤ best.length + 1 := by
  unfold merge1
  split
  · have h1 := put_len (copyM best) kv.1 (val W kv.1)
    have h2 := copy_len best
    omega
  · omega
theorem merge_len (best W : WD) : (mergeM best W).length ≤ best.length + W.length := by
  have h := foldl_len (fun b a => merge1_len W b a) W best
  unfold mergeM
  omega
theorem edgesOf_len (r : Rule) : (edgesOf r).length ≤ 2 := by
  unfold edgesOf
  cases r.hi <;> cases r.lo <;> simp
theorem edges_len : ∀ rs : List Rule, (edgesM rs).length ≤ 2 * rs.length
  | [] => Nat.le_refl _
  | r :: rs => by
    have h1 := edges_len rs
    have h2 := edgesOf_len r
    show (edgesOf r ++ edgesM rs).length ≤ 2 * (rs.length + 1)
    rw [List.length_append]
    omega
theorem iter_len {E : List Edge} {n : Nat} (hn : n ≤ 4) (hE : E.length ≤ 10) : ∀ k, (iterL E n k).length ≤ 4 * 10 ^ k
  | 0 => Nat.le_trans (init_len n) (by omega)
  | k + 1 => by
    have h1 := iter_len hn hE k
    have h2 := longer_len E (iterL E n k)
    have h3 : (iterL E n k).length * E.length ≤ (4 * 10 ^ k) * 10 := Nat.mul_le_mul h1 hE
    show (longer E (iterL E n k)).length ≤ 4 * 10 ^ (k + 1)
    rw [Nat.pow_succ]
    omega
theorem iter_len4 {E : List Edge} {n k : Nat} (hn : n ≤ 4) (hE : E.length ≤ 10) (hk : k ≤ 4) : (iterL E n k).length ≤ 40000 := by
  have h := iter_len hn hE k
  have h2 : 10 ^ k ≤ 10 ^ 4 := Nat.pow_le_pow_right (by decide) hk
  omega
theorem short_len {E : List Edge} {n : Nat} (hn : n ≤ 4) (hE : E.length ≤ 10) : ∀ k, k ≤ 4 → (shortS E n k).length ≤ 4 + k * 40000
  | 0, _ => Nat.le_trans (init_len n) (by omega)
  | k + 1, hk => by
    have h1 := short_len hn hE k (by omega)
    have h2 := merge_len (shortS E n k) (iterL E n (k + 1))
    have h3 := iter_len4 (E := E) (n := n) (k := k + 1) hn hE hk
    show (mergeM (shortS E n k) (iterL E n (k + 1))).length ≤ 4 + (k + 1) * 40000
    omega
/-! ### rules, kept times -/
def Holds (t : List Int) (r : Rule) : Prop := (∀ l, r.lo = some l → l ≤ tt t r.e - tt t r.s) ∧ ∀ h, r.hi = some h → tt t r.e - tt t r.s ≤ h
def holdsB (t : List Int) (r : Rule) : Bool :=
  (match r.lo with | none => true | some l => decide (l ≤ tt t r.e - tt t r.s)) && (match r.hi with | none => true | some h => decide (tt t r.e - tt t r.s ≤ h))
theorem holds_of {t : List Int} {r : Rule} (h : holdsB t r = true) : Holds t r := by
  unfold holdsB at h
  rw [Bool.and_eq_true] at h
  refine ⟨fun l e => ?_, fun l e => ?_⟩
  · have h1 := h.1
    rw [e] at h1
    exact of_decide_eq_true h1
  · have h2 := h.2
    rw [e] at h2
    exact of_decide_eq_true h2
def Kept (t : List Int) (rs : List Rule) : Prop := ∀ r ∈ rs, Holds t r
theorem Kept.edges {t : List Int} {rs : List Rule} (h : Kept t rs) : LowE t (edgesM rs) := fun e he => by
  obtain ⟨r, hr, hm⟩ := List.mem_flatMap.mp he
  obtain ⟨h1, h2⟩ := h r hr
  unfold edgesOf at hm
  rcases List.mem_append.mp hm with z | z
  · cases q : r.hi with
    | none => rw [q] at z; nomatch z
    | some b =>
      rw [q] at z
      have z := List.mem_singleton.mp z
      subst z
      exact h2 b q
  · cases q : r.lo with
    | none => rw [q] at z; nomatch z
    | some a =>
      rw [q] at z
      have z := List.mem_singleton.mp z
      subst z
      have := h1 a q
      show tt t r.s - tt t r.e ≤ 0 - a
      omega
/-! ### steps -/
structure Stp where
  up : Bool
  ev : Nat
  tm : Int
deriving DecidableEq
def bd (B : List (List (Option Int))) (i j : Nat) : Option Int := (((B[i]?).getD [])[j]?).getD none
def raised (x : Int) (v : Int) (o : Option Int) : Int := match o with
  | none => x
  | some d => if v - d > x then v - d else x
def lowered (x : Int) (v : Int) (o : Option Int) : Int := match o with
  | none => x
  | some d => if v + d < x then v + d else x
def moveM (B : List (List (Option Int))) (s : Stp) (c : Nat) (x : Int) : Int :=
  if s.up = true then raised x s.tm (bd B c s.ev) else lowered x s.tm (bd B s.ev c)
def stepM (B : List (List (Option Int))) (t : List Int) (s : Stp) : List Int := (List.range t.length).map fun c => moveM B s c (tt t c)
def commM (a b : Stp) : Bool :=
  if a.up = b.up then true
  else if a.up = true then decide (a.ev = b.ev) && decide (a.tm ≤ b.tm) else decide (b.ev = a.ev) && decide (b.tm ≤ a.tm)
theorem step_len (B : List (List (Option Int))) (t : List Int) (s : Stp) : (stepM B t s).length = t.length := by
  unfold stepM
  rw [List.length_map, List.length_range]
theorem tt_step {B : List (List (Option Int))} {t : List Int} {s : Stp} {c : Nat} (h : c < t.length) : tt (stepM B t s) c = moveM B s c (tt t c) := by
  show (stepM B t s).getD c 0 = _
  unfold stepM
  rw [List.getD_eq_getElem?_getD, List.getElem?_map, List.getElem?_range h]
  rfl
theorem raised_comm (x v w : Int) (o p : Option Int) : raised (raised x v o) w p = raised (raised x w p) v o := by
  cases o with
  | none => cases p <;> rfl
  | some a =>
    cases p with
    | none => rfl
    | some b =>
      simp only [raised]
      repeat' split
      all_goals omega
theorem lowered_comm (x v w : Int) (o p : Option Int) : lowered (lowered x v o) w p = lowered (lowered x w p) v o := by
  cases o with
  | none => cases p <;> rfl
  | some a =>
    cases p with
    | none => rfl
    | some b =>
      simp only [lowered]
      repeat' split
      all_goals omega
theorem both_comm {x v w : Int} {o p : Option Int} (hvw : v ≤ w) (h : ∀ a b, o = some a → p = some b → 0 ≤ a + b) : lowered (raised x v o) w p = raised (lowered x w p) v o := by
  cases o with
  | none => cases p <;> rfl
  | some a =>
    cases p with
    | none => rfl
    | some b =>
      have := h a b rfl rfl
      simp only [raised, lowered]
      repeat' split
      all_goals omega
/-- the bounds never allow a round below 0 -/
def Round (B : List (List (Option Int))) : Prop := ∀ i j a b, bd B i j = some a → bd B j i = some b → 0 ≤ a + b
theorem move_comm {B : List (List (Option Int))} (hB : Round B) {a b : Stp} (h : commM a b = true) (c : Nat) (x : Int) : moveM B b c (moveM B a c x) = moveM B a c (moveM B b c x) := by
  unfold commM at h
  unfold moveM
  by_cases hab : a.up = b.up
  · rw [← hab]
    by_cases ha : a.up = true
    · simp only [ha, if_true]
      exact raised_comm _ _ _ _ _
    · simp only [ha, if_false]
      exact lowered_comm _ _ _ _ _
  · rw [if_neg hab] at h
    by_cases ha : a.up = true
    · rw [if_pos ha] at h
      have hb : ¬ b.up = true := fun z => hab (ha.trans z.symm)
      rw [Bool.and_eq_true] at h
      have h1 := of_decide_eq_true h.1
      have h2 := of_decide_eq_true h.2
      simp only [ha, hb, if_true, if_false, h1]
      exact both_comm h2 fun p q e1 e2 => hB _ _ _ _ e1 e2
    · rw [if_neg ha] at h
      have hb : b.up = true := by
        cases hbu : b.up with
        | true => rfl
        | false =>
          cases hau : a.up with
          | true => exact absurd hau ha
          | false => exact absurd (hau.trans hbu.symm) hab
      rw [Bool.and_eq_true] at h
      have h1 := of_decide_eq_true h.1
      have h2 := of_decide_eq_true h.2
      simp only [ha, hb, if_true, if_false, h1]
      exact (both_comm h2 fun p q e1 e2 => hB _ _ _ _ e1 e2).symm
theorem step_comm {B : List (List (Option Int))} (hB : Round B) {a b : Stp} (h : commM a b = true) (t : List Int) : stepM B (stepM B t a) b = stepM B (stepM B t b) a := by
  have key : ∀ x y : Stp, stepM B (stepM B t x) y = (List.range t.length).map fun c => moveM B y c (moveM B x c (tt t c)) := fun x y => by
    show (List.range (stepM B t x).length).map (fun c => moveM B y c (tt (stepM B t x) c)) = _
    rw [step_len]
    refine List.map_congr_left fun c hc => ?_
    rw [tt_step (List.mem_range.mp hc)]
  rw [key, key]
  exact List.map_congr_left fun c _ => move_comm hB h c _
theorem bd_bounds {n : Nat} {E : List Edge} {i j : Nat} {a : Int} (h : bd (boundsM n E) i j = some a) : look (shortest n E) (i, j) = some a := by
  unfold bd boundsM at h
  by_cases hi : i < n
  · rw [List.getElem?_map, List.getElem?_range hi] at h
    simp only [Option.map_some, Option.getD_some] at h
    by_cases hj : j < n
    · rw [List.getElem?_map, List.getElem?_range hj] at h
      exact h
    · have e : ((List.range n).map fun j => look (shortest n E) (i, j))[j]? = none := List.getElem?_eq_none (by rw [List.length_map, List.length_range]; omega)
      rw [e] at h
      cases h
  · have e : ((List.range n).map fun i => (List.range n).map fun j => look (shortest n E) (i, j))[i]? = none := List.getElem?_eq_none (by rw [List.length_map, List.length_range]; omega)
    rw [e] at h
    simp at h
theorem round_bounds {t : List Int} {E : List Edge} (hE : LowE t E) (n : Nat) : Round (boundsM n E) := fun i j a b h1 h2 => by
  have L := Low.shortS hE n (n - 1)
  have e1 := L.look (bd_bounds h1)
  have e2 := L.look (bd_bounds h2)
  omega
/-! ### the nets that tell steps apart -/
def apSize (same : Bool) : Nat := if same = true then 2 else 3
def apRules (same : Bool) (b : Int) : List Rule := if same = true then [⟨1, 0, none, some 0⟩, ⟨0, 1, none, some b⟩] else [⟨2, 0, none, some 0⟩, ⟨1, 2, none, some b⟩]
def apTimes (same : Bool) (b : Int) : List Int := if same = true then [0, 0] else [0, 0 - b, 0]
def apLowEv (same : Bool) : Nat := if same = true then 0 else 1
def lastM (t : List Int) : Int := tt t (t.length - 1)
def apTest (same : Bool) (v w : Int) : Bool :=
  let b := v - w - 1
  let B := boundsM (apSize same) (edgesM (apRules same b))
  let hi : Stp := ⟨true, 0, v⟩
  let lo : Stp := ⟨false, apLowEv same, w⟩
  decide (lastM (stepM B (stepM B (apTimes same b) hi) lo) ≠ lastM (stepM B (stepM B (apTimes same b) lo) hi)) && ((apRules same b).all fun r => holdsB (apTimes same b) r)
def sevens : List Int := [-3, -2, -1, 0, 1, 2, 3]
theorem sevens_mem {v : Int} (h1 : -3 ≤ v) (h2 : v ≤ 3) : v ∈ sevens := by
  have : v = -3 ∨ v = -2 ∨ v = -1 ∨ v = 0 ∨ v = 1 ∨ v = 2 ∨ v = 3 := by omega
  rcases this with e | e | e | e | e | e | e <;> subst e <;> decide
theorem ap_other : ∀ v ∈ sevens, ∀ w ∈ sevens, apTest false v w = true := by decide +kernel
theorem ap_same : ∀ v ∈ sevens, ∀ w ∈ sevens, w < v → apTest true v w = true := by decide +kernel
end AB
/-! Rules of our own: enumerate of a tuple; a dict comprehension whose keys are tuples. -/
namespace AbR
open PySem PySem.Spec PyProof.Rows L2
/-! ### enumerate(v), one argument, v whatever an iterator begins with -/
theorem meets_enum1 {v : Value} {ob : Obj} {Hb : Heap → Prop} (B : Begins v ob Hb) :
    Meets (Builtin.«enumerate.__new__» ⟨[.type "enumerate", v], []⟩) (fun _ R s => Hb s.heap ∧
      R (.ok (.ret (.ref (s.heap.push ob).objs.size)))
        { s with heap := (s.heap.push ob).push { cls := .type "enumerate", data := .fields #[.none, .bool false, .ref s.heap.objs.size, rawInt 0, .none, .none] } }) :=
  .of_wp fun prog w A R st hh => by
    obtain ⟨hp0, gs, dr, tk, sys⟩ := st
    obtain ⟨hB, hR⟩ := hh
    have subE := sub_enumerate
    have draw : ∀ {A' : Around} {E : Value → Shared → Prop} {Q : Value → Shared → Prop}, Q (.ref hp0.objs.size) ⟨hp0.push ob, gs, dr, tk, sys⟩ → wpAny (model prog w) A' (pyIter v) Q E ⟨hp0, gs, dr, tk, sys⟩ :=
      fun q => B.iter prog w _ _ ⟨hp0, gs, dr, tk, sys⟩ _ hB q
    wp_walk using draw
    refine wpAny_stack_any fun stk => wpAny_pure ?_
    split
    · rename_i cc _ _ _ _ _
      cases (cc == Value.type "enumerate")
      · wp_walk using draw
        exact ⟨_, rfl, hR⟩
      · wp_walk using draw
        exact ⟨_, rfl, hR⟩
    · wp_walk using draw
      exact ⟨_, rfl, hR⟩
section
variable {prog : Program} {w : World} {A : Around} {E : Value → Shared → Prop} {s : Shared}
theorem call_enum1 {v : Value} {ob : Obj} {Hb : Heap → Prop} {Q : Value → Shared → Prop} (B : Begins v ob Hb) (hB : Hb s.heap)
    (k : ∀ h1, IsEnum h1 (s.heap.objs.size + 1) s.heap.objs.size 0 .none → h1.get? s.heap.objs.size = some ob → (∀ b o, s.heap.get? b = some o → h1.get? b = some o) →
      Q (.ref (s.heap.objs.size + 1)) { s with heap := h1 }) : wpAny (model prog w) A (call (.type "enumerate") [v]) Q E s := by
  refine callType_new F.called_enumerate (by decide) (F.typeCall_enumerate_1 _) (F.newCall_enumerate_1 _) (fun o => F.args_object_init_2 o _) F.entry_enumerate_new (meets_enum1 B) ⟨hB, ?_⟩
  have size1 : (s.heap.push ob).objs.size = s.heap.objs.size + 1 := Heap.size_push ..
  have cell : IsEnum ((s.heap.push ob).push { cls := .type "enumerate", data := .fields #[.none, .bool false, .ref s.heap.objs.size, rawInt 0, .none, .none] }) (s.heap.objs.size + 1) s.heap.objs.size 0 .none := by
    have e := Heap.get?_push_size (s.heap.push ob) (o := { cls := .type "enumerate", data := .fields #[.none, .bool false, .ref s.heap.objs.size, rawInt 0, .none, .none] }) rfl
    rw [size1] at e
    exact e
  show _ ∧ _
  rw [size1]
  exact ⟨⟨_, cell, rfl⟩, k _ cell (Heap.get?_push_of_some _ (Heap.get?_push_size _ B.free)) fun b o x => Heap.get?_push_of_some _ (Heap.get?_push_of_some _ x)⟩
end
/-- the pairs (0, xs[0]), (1, xs[1]), .. of the tuple at a, each a new tuple -/
def IteT (K : PySem.W.Frag) (a : Addr) (xs : List V) : It :=
  ⟨fun i H => SqT K H a xs ∧ i < xs.length, fun i H v H' => ∃ T x, v = .ref T ∧ H T = none ∧ H' = upd H T (.tup [.int (i : Nat), x]) ∧ xs[i]? = some x, fun i H => SqT K H a xs ∧ xs.length ≤ i⟩
theorem walk_enumT {K : PySem.W.Frag} {a : Addr} {xs : List V} : Walk (IteT K a xs) xs.length (fun H => SqT K H a xs) (YPair (fun i => some (.int (i : Nat))) (fun i => xs[i]?)) :=
  ⟨fun i _ hi q => ⟨q, hi⟩, fun _ q => ⟨q, Nat.le_refl _⟩, fun i H v H' _ _ y => by
    obtain ⟨T, x, h1, h2, h3, h4⟩ := y
    exact ⟨T, .int (i : Nat), x, h1, h2, h3, rfl, h4⟩⟩
theorem turn_enumT {P : Program} {w : World} {K : PySem.W.Frag} {elts : List Expr} {kk : Nat} {tpos : Pos} (a e it : Addr) (xs : List V) (hei : e ≠ it) (hae : a ≠ e) (hai : a ≠ it) :
    Turn P w K (.Tuple elts kk tpos) (IteT K a xs) [e, it] e (fun i h => i ≤ xs.length ∧ (∃ old, IsEnum h e it ((i : Nat) : Int) old) ∧ h.IsTupleIter it a i) where
  mem := List.mem_cons_self
  obj := fun i h st b hb => by
    obtain ⟨_, ⟨old, he⟩, o, ho, hc, hd⟩ := st
    rcases List.mem_cons.mp hb with z | z
    · subst z
      exact ⟨_, he, fun v q => nomatch q⟩
    · have z := List.mem_singleton.mp z
      subst z
      exact ⟨o, ho, fun v q => by rw [hd] at q; cases q⟩
  keep := fun i h h' st k => ⟨st.1, let ⟨old, he⟩ := st.2.1; ⟨old, k e (by simp) _ he⟩, st.2.2.at fun o q => k it (by simp) o q⟩
  item := by
    intro X hP hw hK hc i pins s σ H E I hf st hg
    subst hP hw hK
    obtain ⟨_, ⟨old, he⟩, hit⟩ := st
    obtain ⟨hq, hlt⟩ := hg
    obtain ⟨its, rv, tp, _⟩ := I.tuple hq
    have hlen : its.toArray.size = xs.length := by rw [List.size_toArray]; exact rv.length.symm
    have helt : e < s.heap.objs.size := Heap.lt_size he
    have hilt : it < s.heap.objs.size := by obtain ⟨_, q, _⟩ := hit; exact Heap.lt_size q
    have hh : X.A.in1.handled = none := I.ok.hd hc
    refine wpAny_pyNext_enum_itemC (Draws.tuple hh it a hai its.toArray) he ⟨hit, tp⟩ (by rw [hlen]; exact hlt) hei (by simp [hei, hae.symm]) fun u h1 tk hu ho st1 hT _ hk => ?_
    obtain ⟨x, hx, rx⟩ : ∃ x, xs[i]? = some x ∧ RelV x u := by
      have hu' : its[i]? = some u := by simpa using hu
      obtain ⟨u', e1, e2⟩ := rv.get (x := xs[i]) (List.getElem?_eq_getElem hlt)
      rw [hu'] at e1
      cases e1
      exact ⟨_, List.getElem?_eq_getElem hlt, e2⟩
    refine ⟨_, rfl, wpAny_letOwnedTupleGo_enum (s := { s with heap := h1, toks := tk + 1 }) ho fun h2 he2 sb => ?_⟩
    have hT2 : h2.get? s.heap.objs.size = some { cls := .type "tuple", data := .seq #[.int (i : Nat) tk, u] } := (sb.2 _ (Nat.ne_of_gt helt)).trans hT
    have new : ObjOk X.prog X.w (upd H s.heap.objs.size (.tup [.int (i : Nat), x])) h2 s.heap.objs.size (.tup [.int (i : Nat), x]) :=
      ⟨(by decide : 2 ≤ sizeLine), [.int (i : Nat) tk, u], .cons ⟨_, rfl⟩ (.cons rx .nil), ⟨_, hT2, rfl, _, rfl⟩⟩
    have I1 : Inv X pins σ (upd H s.heap.objs.size (.tup [.int (i : Nat), x])) { s with heap := h2, toks := tk + 1 } :=
      I.turnedNew (ch := [e, it]) (fun b ob hb q => (sb.2 b fun z => hb (by simp [z])).trans (hk b ob (fun z => hb (by simp [z])) (fun z => hb (by simp [z])) q)) hf (Nat.le_refl _) new
    refine ⟨.ref s.heap.objs.size, _, I1, rfl, ⟨_, x, rfl, I.hok.fresh (Nat.le_refl _), rfl, hx⟩, ⟨hlt, ⟨u, ?_⟩, st1.1.at fun o q => (sb.2 it hei.symm).trans q⟩, fun b hb => ?_⟩
    · rw [show ((i + 1 : Nat) : Int) = (i : Int) + 1 by omega]
      exact he2
    · have hb2 : b < s.heap.objs.size := by
        rcases List.mem_cons.mp hb with z | z
        · exact z ▸ helt
        · exact (List.mem_singleton.mp z) ▸ hilt
      rw [upd_ne (Nat.ne_of_lt hb2)]
      exact (hf b hb).1
  done := by
    intro X hP hw hK hc i pins s σ H E I hf st hg
    subst hP hw hK
    obtain ⟨hle, ⟨old, he⟩, hit⟩ := st
    obtain ⟨hq, hge⟩ := hg
    obtain ⟨its, rv, tp, _⟩ := I.tuple hq
    obtain ⟨f0, f1, f2, f3, f4, f5⟩ := hf it (by simp)
    have hlen : i = its.toArray.size := by rw [List.size_toArray, ← rv.length]; omega
    have hh : X.A.in1.handled = none := I.ok.hd hc
    subst hlen
    exact wpAny_pyNext_enum_endD (Draws.tuple hh it a hai its.toArray) he ⟨hit, tp⟩ fun h1 eb => ⟨rfl, I.turned (t' := s.toks) (fun b o hb q => eb b o hb q) f0 f1 f3 f4 f5⟩
  self := fun A i s Q E st h => let ⟨_, ⟨_, he⟩, _⟩ := st; wpAny_pyIter_enum he h
def iEnumT (K : PySem.W.Frag) (ta : TA) : TI := fun σ H R => ta σ H fun vs H1 => ∃ a xs, vs = [.ref a] ∧ SqT K H1 a xs ∧ R (IteT K a xs) H1
theorem pi_enumT {X : Cx} {e : Expr} {ta : TA} {p pos tpos : Pos} {elts : List Expr} {kk : Nat} (hg : Gl X "enumerate") (hm : X.mg "enumerate" = none) (ha : PA X [e] ta) (hs : starEach [e] X.env = [(false, eval e X.env)] := by rfl) :
    PI X (.Tuple elts kk tpos) (.Call (.Name "enumerate" p) [e] [] pos) (iEnumT X.K ta) := ⟨fun pins s σ H R I h => by
  refine Call_ (ld_blt I hg hm boot_enumerate (PyProof.Rows.callWith_type1 (thn (ha.run pos pins s σ H _ I h) fun us s1 q0 => ?_) hs rfl))
  obtain ⟨vs, H1, I1, r1, a, xs, ex, hq, q⟩ := q0
  subst ex
  cases r1 with
  | cons r rr =>
    cases rr
    cases r
    obtain ⟨its, rv, tp, _⟩ := I1.tuple hq
    have halt : a < s1.heap.objs.size := tp.lt
    refine call_enum1 (begins_tuple a its.toArray) tp fun h1 he hit hk => wpAny_pyIter_enum he ?_
    have I2 : Inv X pins σ H1 { s1 with heap := h1 } := I1.kept (t' := s1.toks) hk
    refine ⟨s1.heap.objs.size + 1, [s1.heap.objs.size + 1, s1.heap.objs.size], _, _, H1, rfl, I2,
      turn_enumT a (s1.heap.objs.size + 1) s1.heap.objs.size xs (Nat.succ_ne_self _) (Nat.ne_of_lt (Nat.lt_succ_of_lt halt)) (Nat.ne_of_lt halt), ⟨Nat.zero_le _, ⟨.none, he⟩, ⟨_, hit, rfl, rfl⟩⟩, fun b hb => ?_, q⟩
    have hle : s1.heap.objs.size ≤ b := by
      rcases List.mem_cons.mp hb with z | z
      · exact z ▸ Nat.le_succ _
      · exact Nat.le_of_eq (List.mem_singleton.mp z).symm
    exact I1.fpOk hle (I1.hok.fresh hle)⟩
end AbR
/-! A dict comprehension whose keys are tuples, without tests. -/
namespace AbR
open PySem PySem.Spec PyProof.Rows L2
/-- the comprehension's own store, by what DPut says -/
theorem put_new {X : Cx} {pins : List (Addr × Obj)} {σ : L2.St} {H H' : Hp} {s : Shared} {E : Value → Shared → Prop} {D : Addr} {y z : V} {u r : Value} {Q : Unit → Shared → Prop} (hu : X.A.units + 1 < cLine) (I : Inv X pins σ H s)
    (put : DPut H D y z H') (ry : RelV y u) (rz : RelV z r) (k : ∀ s', Inv X pins σ H' s' → Q () s') : wpAny (model X.prog X.w) X.A (dictSet D u r) Q E s := by
  rcases put with ⟨kvs, ky, e, ey, l, eH⟩ | ⟨kvs, ky, b, e, ey, eb, l, eH⟩
  · subst ey eH
    exact d_dictSet I e l ry rz k
  · subst ey eH
    cases (show u = Value.ref b from ry)
    obtain ⟨_, hd, xs, rel, dd⟩ := dt_of I.hok e
    have small : xs.length ≤ sizeLine := by rw [← Paired.length rel]; exact Nat.le_of_lt l
    have after : (putK kvs ky z).length ≤ sizeLine := by have := length_putK kvs ky z; omega
    refine wpAny_dictSet_heap (hsz := small) (show X.A.units < cLine by omega) (key_of I.hok eb) dd fun h1 dd1 sb => k _ ?_
    obtain ⟨q, es, ep, hq, h2, h3, h4, _, h5⟩ := dd1
    refine d_write I (by rw [e]; exact True.intro) sb ⟨q, hq⟩ ⟨after, hd, _, (rel.put ky eb rz).keeps fun c ys ec => ?_, q, es, ep, hq, h2, h3, h4, h5⟩
    rw [upd_ne (ne_of ec e fun z => nomatch z)]
    exact ec
section
variable {X : Cx}
/-- {k: v for target in iter}: D the new dict, W by the turn and a measure, Nx what a turn is to reach -/
def tDt (wi : TI) (g : TG) (tk tv : TE) (vs : List Nat) : TE := fun σ H Q => wi σ H fun J H1 => ∀ D, H1 D = none → ∃ W : Nat → Nat → Hp → Prop, (∃ m, W 0 m (upd H1 D (.dT []))) ∧
  ∀ i m H2, W i m H2 → (J.stop i H2 ∧ Q (.ref D) H2) ∨ (J.go i H2 ∧ ∃ Nx : Hp → Prop, (∀ H', Nx H' → ∃ m', m' < m ∧ W (i + 1) m' H') ∧
    ∀ x H', J.yld i H2 x H' → g x (wipe σ vs) H' fun σ2 H3 => wipe σ2 vs = wipe σ vs ∧ tk σ2 H3 fun y H4 => tv σ2 H4 fun z H5 => ∃ H6, DPut H5 D y z H6 ∧ Nx H6)
/-- the block's context, short -/
abbrev bx (X : Cx) (scope : Scope) (s : Shared) (H : Hp) (C : Addr) (cl : List (Str × Addr)) (fp : List Addr) : Cx := X.blk s H scope (compEnvC scope cl C X.env) fp
theorem dt_core {pins : List (Addr × Obj)} {s : Shared} {σ : L2.St} {H : Hp} {Q : VK} {kx vx tg iter : Expr} {scope : Scope} {own : List (Str × Nat)} {pos pos' : Pos} {wi : TI} {g : TG} {tk tv : TE} {use : Option (Value → Sem Unit)} {Qf : Value → Shared → Prop}
    (calm : X.calm = true) (nodup : X.N.Nodup) (room : X.A.units + 1 < cLine) (I : Inv X pins σ H s) (hi : PI X tg iter wi) (ok : BlkOk X.N X.env.scope scope own)
    (hg : ∀ s H C cl fp, PG (bx X scope s H C cl fp) tg g) (hk : ∀ s H C cl fp, PE (bx X scope s H C cl fp) kx tk) (hv : ∀ s H C cl fp, PE (bx X scope s H C cl fp) vx tv)
    (fold : ∀ x, foldedSetIterable iter X.env x = pure x) (h : tDt wi g tk tv (own.map (·.2)) σ H Q)
    (fin : ∀ D C s' m H', Inv X pins σ H' s' → Q (.ref D) H' → s'.heap.Ns C m → FpOk X pins H' C → compPost (model X.prog X.w) X.A X.xe use Qf (.ref D) C (.ok .next) s') :
    wpAny (model X.prog X.w) X.A (comprehension (.DictComp kx vx [⟨tg, iter, [], 0⟩] scope pos) scope X.env pos' newDict false (eval iter X.env) use) Qf X.xe s := by
  have cellsOf : ∀ y ∈ scope.names, y.2 = .free → ∃ c, X.env.cells.lookup y.1 = some c := fun y hy e => (ok.free y hy e).elim (fun z => I.ok.has _ (.inl z)) fun z => I.ok.has _ (.inr z)
  refine wpAny_comprehension_free (use := use) rfl fold (closure_ok cellsOf) ok.kind (fun y hy e => by rw [ok.uniq y hy, e]) (thn (hi.run pins s σ H _ I h) fun xv sa ha => thn ha fun itv sb hb => ?_)
  obtain ⟨it, fp, tn, J, Hb, e, Ib, T, stb, fb, q⟩ := hb
  subst e
  refine wpAny_newObj_type (newEnv_comp ?_)
  generalize eD : sb.heap.objs.size = D
  obtain ⟨W, ⟨m0, w0⟩, turn⟩ := q D (Ib.hok.fresh (Nat.le_of_eq eD))
  generalize esc : ({ sb with heap := sb.heap.push { cls := .type "dict", data := .dict #[] } } : Shared) = sc
  have hsc : sc.heap = sb.heap.push { cls := .type "dict", data := .dict #[] } := by rw [← esc]
  have Ic : Inv X pins σ (upd Hb D (.dT [])) sc := by
    rw [← esc]
    refine Ib.laid (t' := sb.toks) (fun b o z => Heap.get?_push_of_some _ z) (Nat.le_of_eq eD) ?_
    rw [← eD]
    exact dt_empty sb.heap Ib.big
  have lt : ∀ b ∈ fp, b < sb.heap.objs.size := fun b hb => let ⟨_, z, _⟩ := T.obj _ _ stb b hb; Heap.lt_size z
  have fc : ∀ b ∈ fp, FpOk X pins (upd Hb D (.dT [])) b ∧ b < sc.heap.objs.size := fun b hb => by
    refine ⟨⟨?_, (fb b hb).2⟩, by rw [hsc, Heap.size_push]; exact Nat.lt_succ_of_lt (lt b hb)⟩
    rw [upd_ne (by rw [← eD]; exact Nat.ne_of_lt (lt b hb))]
    exact (fb b hb).1
  have stc : tn 0 sc.heap := T.keep _ _ _ stb fun b _ o z => by rw [hsc]; exact Heap.get?_push_of_some _ z
  have Id := block_start Ic ok nodup fc
  show codeAny _ _ (.compStart (.DictComp kx vx [⟨tg, iter, [], 0⟩] scope pos) 0 (.ref it) (.ref D) (compEnvC scope (cellsFrom (sc.heap.objs.size + 1) scope.names (cloFrom X.env.cells scope.names [])) sc.heap.objs.size X.env))
    (compPost (model X.prog X.w) X.A X.xe use Qf (.ref D) sc.heap.objs.size) { sc with heap := pushCells (sc.heap.push { cls := .type "dict", data := .dict #[] }) scope.names }
  generalize ecl : cellsFrom (sc.heap.objs.size + 1) scope.names (cloFrom X.env.cells scope.names []) = cl at Id ⊢
  have pg : PG (X.blk sc (upd Hb D (.dT [])) scope (compEnvC scope cl sc.heap.objs.size X.env) fp) tg g := hg ..
  have pk : PE (X.blk sc (upd Hb D (.dT [])) scope (compEnvC scope cl sc.heap.objs.size X.env) fp) kx tk := hk ..
  have pw : PE (X.blk sc (upd Hb D (.dT [])) scope (compEnvC scope cl sc.heap.objs.size X.env) fp) vx tv := hv ..
  have none3 : ∀ b ∈ fp, (upd Hb D (.dT [])) b = none := fun b hb => (fc b hb).1.1
  generalize ece : compEnvC scope cl sc.heap.objs.size X.env = ce at Id pg pk pw ⊢
  have loc : ce.locals = sc.heap.objs.size := by rw [← ece]; rfl
  generalize eH : upd Hb D (.dT []) = Hc at Ic Id pg pk pw w0 none3 fc
  generalize esd : ({ sc with heap := pushCells (sc.heap.push { cls := .type "dict", data := .dict #[] }) scope.names } : Shared) = sd at Id ⊢
  have std : tn 0 sd.heap := T.keep _ _ _ stc fun b _ o z => by rw [← esd]; exact pushCells_keeps _ _ _ _ (Heap.get?_push_of_some _ z)
  have own_fp : ∀ {σ' : L2.St} {H' : Hp} {s' : Shared}, Inv (X.blk sc Hc scope ce fp) [] σ' H' s' → (∀ b ∈ fp, H' b = none) → ∀ b ∈ fp, FpOk (X.blk sc Hc scope ce fp) [] H' b := fun {σ' H' s'} J' hn b hb =>
    ⟨hn b hb, (J'.ok.exf b hb).1, J'.ok.exfs b hb, .inl hb, (J'.ok.exf b hb).2, fun p hp => absurd (show p ∈ ([] : List (Addr × Obj)) ++ [] from hp) (by simp)⟩
  refine codeAny_compStart_dict ?loop (T.self X.A 0 _ _ _ std ?loop)
  refine compLoop_anyD (fun n s' => ∃ i H', Inv (X.blk sc Hc scope ce fp) [] (wipe σ (own.map (·.2))) H' s' ∧ tn i s'.heap ∧ (∀ b ∈ fp, H' b = none) ∧ W i n H') ?_ m0 ⟨0, Hc, Id, std, none3, w0⟩
  rintro n s5 ⟨i, H5, I5, st5, n5, w5⟩
  rcases turn i n H5 w5 with ⟨stop, qq⟩ | ⟨go, Nx, hNx, step⟩
  · refine thnF (T.done (X.blk sc Hc scope ce fp) rfl rfl rfl calm i [] s5 _ H5 (fun _ _ => False) I5 (own_fp I5 n5) st5 stop) fun r s6 ⟨hr, I6⟩ => ?_
    subst hr
    have back : Inv X pins σ H5 s6 := Ic.call' (ch := fp) I6.os I6.base I6.hok I6.bare fun b hb => let z := (fc b hb).1.2; ⟨z.2.2.1, z.1, z.2.2.2.1, z.2.2.2.2⟩
    have free : H5 sc.heap.objs.size = none := by
      have z : H5 ce.locals = none := I6.free
      exact loc ▸ z
    obtain ⟨m, hn, _⟩ := I6.loc
    have hn : s6.heap.Ns ce.locals m := hn
    rw [loc] at hn
    exact fin D sc.heap.objs.size s6 m H5 back qq hn (Ic.fpOk (Nat.le_refl _) free)
  · refine thnF (T.item (X.blk sc Hc scope ce fp) rfl rfl rfl calm i [] s5 _ H5 (fun _ _ => False) I5 (own_fp I5 n5) st5 go) fun r s6 ⟨u, hr, h6⟩ => ?_
    subst hr
    refine thnF h6 fun _ s7 ⟨x, H7, I7, r7, y7, st7, n7⟩ => ?_
    refine thnF (pg.run _ s7 _ H7 x u _ (I7.pinned (own_fp I7 n7) (T.obj _ _ st7)) r7 (step x H7 y7)) fun _ s8 ⟨σ8, H8, I8, hw8, q8⟩ => ?_
    refine wpAny_tests_nil ?_
    rw [if_pos rfl]
    refine thnF (pk.run _ s8 σ8 H8 _ I8 q8) fun uk s9 ⟨y, H9, I9, r9, q9⟩ => ?_
    refine thnF (pw.run _ s9 σ8 H9 _ I9 q9) fun uv sA ⟨z, HA, IA, rA, HB, put, nx⟩ => ?_
    refine put_new (X := X.blk sc Hc scope ce fp) room IA put r9 rA fun sB IB => ?_
    obtain ⟨m', hm, w'⟩ := hNx HB nx
    have pinned : ∀ b ∈ fp, ∀ o, s7.heap.get? b = some o → sB.heap.get? b = some o ∧ HB b = none := fun b hb o e => let z := IB.pin (b, o) (List.mem_append_right _ (List.mem_append_right _ (mem_pinsAt hb e))); ⟨z.1, z.2.1⟩
    refine ⟨m', hm, i + 1, HB, (IB.unpinned (pins := [])).weak (by rw [← hw8, wipe_length]) (fun j v e => ?_), T.keep _ _ _ st7 fun b hb o e => (pinned b hb o e).1, fun b hb => ?_, w'⟩
    · rw [← hw8] at e
      exact (wipe_some e).1
    · obtain ⟨o, e, _⟩ := T.obj _ _ st7 b hb
      exact (pinned b hb o e).2
/-- name = {..} on one line, the name a local one -/
theorem ps_setDt {i : Nat} {nm : Str} {pn : Pos} {kx vx tg iter : Expr} {scope : Scope} {own : List (Str × Nat)} {pos spos : Pos} {wi : TI} {g : TG} {tk tv : TE} (calm : X.calm = true) (nodup : X.N.Nodup) (room : X.A.units + 1 < cLine)
    (at_ : X.N[i]? = some nm) (loc : X.env.scope.names.lookup nm = some .local) (hsw : swapsWith (.DictComp kx vx [⟨tg, iter, [], 0⟩] scope pos) (some (.Name nm pn)) spos.line X.env = pure true) (hi : PI X tg iter wi) (ok : BlkOk X.N X.env.scope scope own)
    (hg : ∀ s H C cl fp, PG (bx X scope s H C cl fp) tg g) (hk : ∀ s H C cl fp, PE (bx X scope s H C cl fp) kx tk) (hv : ∀ s H C cl fp, PE (bx X scope s H C cl fp) vx tv)
    (fold : ∀ x, foldedSetIterable iter X.env x = pure x := by intro _; rfl) : PS X (.Assign [.Name nm pn] (.DictComp kx vx [⟨tg, iter, [], 0⟩] scope pos) spos) (tAsg (tDt wi g tk tv (own.map (·.2))) (gName i)) := by
  refine ⟨fun pins s σ H D I h => ?_⟩
  rw [exec_Assign_Name_used _ _ _ _ hsw]
  have h : tDt wi g tk tv (own.map (·.2)) σ H (fun x H1 => gName i x σ H1 D.nx) := h
  refine wpAny_bind (wpAny_standAt (wpAny_bind ?_))
  show wpAny _ X.A (do
    let _ ← comprehension (.DictComp kx vx [⟨tg, iter, [], 0⟩] scope pos) scope X.env (firstIterPos [⟨tg, iter, [], 0⟩] pos) newDict false (eval iter X.env) (some (assign (.Name nm pn) X.env))) _ _ s
  refine wpAny_bind (thn (dt_core (Qf := fun _ s' => SP X pins D .next s') calm nodup room I hi ok hg hk hv fold h fun L C s' m H' J q hn f => ?_) fun _ s' hq => wpAny_pure (wpAny_pure hq))
  obtain ⟨f0, f1, f2, f3, f4, f5⟩ := f
  show wpAny _ _ (assign (.Name nm pn) X.env (.ref L)) _ _ _
  refine wpAny_assign_Name (store_ok2 (v := V.ref L) J nodup at_ (.inl loc) rfl (fun s2 J2 ⟨a, sb, ha⟩ => ?_) (.inr loc))
  have apart : C ≠ a := ha.elim (fun z => z ▸ f1) fun z e => f4 nm a z e.symm
  exact ⟨m, hn.sameBut sb apart, fun h3 sb3 => ⟨_, H', J2.turned (t' := s2.toks) (fun b o hb e => (sb3.2 b hb).trans e) f0 f1 f3 f4 f5, q⟩⟩
theorem sw_dict {kx vx : Expr} {gs : List Comprehension} {scope : Scope} {pos pn : Pos} {nm : Str} {l : Nat} {env : Env} (hk : env.scope.kind = .function) (hy : env.scope.names.lookup nm = some .local) (hl : (pn.line == pos.line) = true)
    (ha : (scope.names.any fun (n, k) => n == nm && (k == .local || k == .cell)) = false) : swapsWith (.DictComp kx vx gs scope pos) (some (.Name nm pn)) l env = pure true := by
  have k1 : env.kindOf nm = some .local := hy
  have k2 : env.blockKind = .function := by unfold Env.blockKind; rw [hk]; rfl
  unfold swapsWith
  simp only [k2, k1, ha, Expr.pos, hl]
  rfl
end
/-- over whatever is walked: Pv by the turn and the heap (the new dict at D within) -/
theorem dt_it {J : It} {n : Nat} {G : Hp → Prop} {Y : Nat → Hp → V → Hp → Prop} (w : Walk J n G Y) {g : TG} {tk tv : TE} {vs : List Nat} {σ : L2.St} {H1 : Hp} {D : Addr} {Qd : Hp → Prop} (Pv : Nat → Hp → Prop) (h0 : Pv 0 (upd H1 D (.dT [])))
    (hG : ∀ i H, i ≤ n → Pv i H → G H)
    (hs : ∀ i x H H', i < n → Pv i H → Y i H x H' → g x (wipe σ vs) H' fun σ2 H3 => wipe σ2 vs = wipe σ vs ∧ tk σ2 H3 fun y H4 => tv σ2 H4 fun z H5 => ∃ H6, DPut H5 D y z H6 ∧ Pv (i + 1) H6) (hd : ∀ H, Pv n H → Qd H) :
    ∃ W : Nat → Nat → Hp → Prop, (∃ m, W 0 m (upd H1 D (.dT []))) ∧ ∀ i m H, W i m H → (J.stop i H ∧ Qd H) ∨ (J.go i H ∧ ∃ Nx : Hp → Prop, (∀ H', Nx H' → ∃ m', m' < m ∧ W (i + 1) m' H') ∧
      ∀ x H', J.yld i H x H' → g x (wipe σ vs) H' fun σ2 H3 => wipe σ2 vs = wipe σ vs ∧ tk σ2 H3 fun y H4 => tv σ2 H4 fun z H5 => ∃ H6, DPut H5 D y z H6 ∧ Nx H6) := by
  refine ⟨fun i m H => m + i = n ∧ Pv i H, ⟨n, rfl, h0⟩, ?_⟩
  rintro i m H ⟨em, p⟩
  have q := hG i H (by omega) p
  by_cases lt : i < n
  · exact .inr ⟨w.goes i H lt q, Pv (i + 1), fun H' p' => ⟨m - 1, by omega, by omega, p'⟩, fun x H' y => hs i x H H' lt p (w.yields i H x H' lt q y)⟩
  · have e : i = n := by omega
    subst e
    exact .inl ⟨w.stops H q, hd H p⟩
end AbR
namespace AbW
open PySem PySem.Spec PyProof.Rows L2 AbR AB
/-! ### the text -/
def topS (i : Nat) : Stmt := PySem.Challenge.pw_allbide_k41_whole_what_commuting_does.main.body.getD i (.Pass ⟨0, 0, 0, 0⟩)
/-- the scope of the comprehension that the expression is -/
def compScope : Expr → Scope
  | .ListComp _ _ sc _ => sc
  | .DictComp _ _ _ sc _ => sc
  | _ => { kind := .function, names := [], isGenerator := false, isCoroutine := false }
def retE : Stmt → Expr
  | .Return (some e) _ => e
  | _ => .Constant .none 0 ⟨0, 0, 0, 0⟩
/-! ### a def that is known: where it stands and what it promises -/
def Kn (P : Program) (w : World) (K : PySem.W.Frag) (mg : Str → Option Value) (base : Heap) (k : Nat) (x : Str) (ps : List Str) (sp : Sp) : Prop :=
  ∃ f fd, FnOk P w K mg base CX0 k f fd ps sp ∧ PySem.W.keepIn K (.ref f) = true ∧ Binds K fd ps [] ∧ mg x = some (.ref f)
/-- a def of the text, under the name x of the module -/
def Df (K : PySem.W.Frag) (mg : Str → Option Value) (x nm : Str) (st : Stmt) : Prop := ∃ f fd, Fun K nm nm st f fd ∧ mg x = some (.ref f)
theorem kn_of {P : Program} {w : World} {K : PySem.W.Frag} {mg : Str → Option Value} {base : Heap} {k : Nat} {x nm : Str} {ps : List Str} {sp : Sp} {st : Stmt} (D : Df K mg x nm st)
    (hb : ∀ (kV doc pm : Value) (an : Option Addr) (cdv ct : Value) (us : List Value), us.length = ps.length → bindArgs (PySem.W.fnOf nm nm (defArgs st) (defBody st) (defScope st) .none kV doc pm an cdv ct) ⟨us, []⟩ = pure (ps.zip us))
    (h : ∀ f fd, Fun K nm nm st f fd → FnOk P w K mg base CX0 k f fd ps sp) : Kn P w K mg base k x ps sp := by
  obtain ⟨f, fd, F, g⟩ := D
  exact ⟨f, fd, h f fd F, F.kp, F.binds hb, g⟩
section
variable {X : Cx} {k : Nat} {ps : List Str} {sp : Sp} {x : Str} {p pos : Pos} {e : Expr} {es : List Expr} {t : TA}
theorem pe_kn (h : Kn X.prog X.w X.K X.mg X.base k x ps sp) (hr : Room k X.A) (hg : Gl X x) (ha : PA X (e :: es) t) (hdb : (x == ("__debug__" : Str)) = false := by decide)
    (he : starEach (e :: es) X.env = (false, eval e X.env) :: starEach es X.env := by rfl) (hpl : (backTo pos (starEach es X.env)).any (·.1) = false := by rfl) : PE X (.Call (.Name x p) (e :: es) [] pos) (tCall sp [] E0 t) := by
  obtain ⟨f, fd, G, kp, b, g⟩ := h
  exact pe_call G hr hg g kp b .nil pass0 ha hdb he hpl
end
/-! ### built-in names -/
theorem b_isinstance : bootBuiltins "isinstance" = some (.builtin "isinstance") := by decide +kernel
theorem b_len : bootBuiltins "len" = some (.builtin "len") := by decide +kernel
theorem b_all : bootBuiltins "all" = some (.builtin "all") := by decide +kernel
theorem b_any : bootBuiltins "any" = some (.builtin "any") := by decide +kernel
theorem b_max : bootBuiltins "max" = some (.builtin "max") := by decide +kernel
theorem b_min : bootBuiltins "min" = some (.builtin "min") := by decide +kernel
theorem b_abs : bootBuiltins "abs" = some (.builtin "abs") := by decide +kernel
theorem b_int : bootBuiltins "int" = some (.type "int") := by decide +kernel
theorem b_bool : bootBuiltins "bool" = some (.type "bool") := by decide +kernel
theorem b_str : bootBuiltins "str" = some (.type "str") := by decide +kernel
theorem b_tuple : bootBuiltins "tuple" = some (.type "tuple") := by decide +kernel
theorem b_list : bootBuiltins "list" = some (.type "list") := by decide +kernel
structure Gb (mg : Str → Option Value) : Prop where
  isinstance : mg "isinstance" = none
  len : mg "len" = none
  all : mg "all" = none
  any : mg "any" = none
  max : mg "max" = none
  min : mg "min" = none
  abs : mg "abs" = none
  int : mg "int" = none
  bool : mg "bool" = none
  str : mg "str" = none
  tuple : mg "tuple" = none
  list : mg "list" = none
  range : mg "range" = none
  enumerate : mg "enumerate" = none
structure Gc (mg : Str → Option Value) : Prop where
  MOST_EVENTS : ∃ t, mg "MOST_EVENTS" = some (.int 6 t)
  MOST_RULES : ∃ t, mg "MOST_RULES" = some (.int 12 t)
  FARTHEST : ∃ t, mg "FARTHEST" = some (.int 100 t)
  LATEST : ∃ t, mg "LATEST" = some (.int 1000 t)
  MOST_EVENT : ∃ t, mg "MOST_EVENT" = some (.int 5 t)
  MOST_TIME : ∃ t, mg "MOST_TIME" = some (.int 500 t)
  MOST_STEPS : ∃ t, mg "MOST_STEPS" = some (.int 16 t)
theorem pe_cst {X : Cx} {x : Str} {n : Int} {pos : Pos} (h : ∃ t, X.mg x = some (.int n t)) (hg : Gl X x) (hd : (x == ("__debug__" : Str)) = false := by decide) : PE X (.Name x pos) (tC (.int n)) := by
  obtain ⟨t, h⟩ := h
  exact pe_glob hg h ⟨t, rfl⟩ hd
theorem pe_bint {X : Cx} {pos : Pos} (h : X.mg "int" = none) (hg : Gl X "int") : PE X (.Name "int" pos) (tC (.ty "int")) := pe_bltn hg h b_int rfl
theorem pe_bbool {X : Cx} {pos : Pos} (h : X.mg "bool" = none) (hg : Gl X "bool") : PE X (.Name "bool" pos) (tC (.ty "bool")) := pe_bltn hg h b_bool rfl
theorem pe_bstr {X : Cx} {pos : Pos} (h : X.mg "str" = none) (hg : Gl X "str") : PE X (.Name "str" pos) (tC (.ty "str")) := pe_bltn hg h b_str rfl
theorem pe_btuple {X : Cx} {pos : Pos} (h : X.mg "tuple" = none) (hg : Gl X "tuple") : PE X (.Name "tuple" pos) (tC (.ty "tuple")) := pe_bltn hg h b_tuple rfl
section
variable {K : PySem.W.Frag} {H : Hp} {Q : VK}
theorem ki_ii : PySem.W.kitOne K (.type "int") (.type "int") = some true := kit_ty (by decide +kernel)
theorem ki_ib : PySem.W.kitOne K (.type "int") (.type "bool") = some false := kit_ty (by decide +kernel)
theorem ki_ss : PySem.W.kitOne K (.type "str") (.type "str") = some true := kit_ty (by decide +kernel)
theorem ki_tt : PySem.W.kitOne K (.type "tuple") (.type "tuple") = some true := kit_ty (by decide +kernel)
end
/-! ### the same rules, the written part told apart -/
theorem ixT {X : Cx} {K : PySem.W.Frag} (h : X.K = K := by rfl) : IxR X (rIxT K) := by
  subst h
  exact ix_tup
theorem ixL {X : Cx} {K : PySem.W.Frag} (h : X.K = K := by rfl) : IxR X (rIxL K) := by
  subst h
  exact ix_list
theorem pg_tupK {X : Cx} {K : PySem.W.Frag} {pos : Pos} {es : List Expr} {k : Nat} {t : TGs} {n : Nat} (hc : X.calm = true) (h : PGs X es t) (hK : X.K = K := by rfl)
    (hn : (assignEach es X.env).length = n := by rfl) (hst : (assignEach es X.env).findIdx? (·.1) = none := by rfl) : PG X (.Tuple es k pos) (gTup K n t) := by
  subst hK
  exact pg_tup hc h hn hst
/-! ### what stands in the heap -/
/-- the tuples stay -/
def Tk (H H' : Hp) : Prop := ∀ a xs, H a = some (.tup xs) → H' a = some (.tup xs)
theorem Tk.refl (H : Hp) : Tk H H := fun _ _ h => h
theorem Tk.trans {H H1 H2 : Hp} (a : Tk H H1) (b : Tk H1 H2) : Tk H H2 := fun c xs h => b c xs (a c xs h)
theorem tk_of {H H' : Hp} (e : Same H H') : Tk H H' := fun a xs h => e a _ h
theorem tk_upd {H : Hp} {p : Addr} {o : HO} (h : ∀ xs, H p ≠ some (.tup xs)) : Tk H (upd H p o) := fun a xs e => by
  have ne : a ≠ p := fun z => h xs (by rw [← z]; exact e)
  rw [upd_ne ne]
  exact e
theorem same_new {H : Hp} {p : Addr} {o : HO} (h : H p = none) : Same H (upd H p o) := fun b x e => by
  rw [upd_ne (ne_of_none e h)]
  exact e
/-- an object that the start does not know may change -/
theorem same_mut {H H' : Hp} {p : Addr} {o : HO} (e : Same H H') (h : H p = none) : Same H (upd H' p o) := fun a u ha => by
  rw [upd_ne (ne_of_none ha h)]
  exact e a u ha
def optV : Option Int → V
  | none => .non
  | some i => .int i
def RuleAt (H : Hp) (v : V) (r : Rule) : Prop := ∃ a : Addr, v = .ref a ∧ H a = some (.tup [.int r.s, .int r.e, optV r.lo, optV r.hi])
def NetAt (H : Hp) (v : V) (n : Nat) (rs : List Rule) : Prop := ∃ (a b : Addr) (vs : List V), v = .ref a ∧ H a = some (.tup [.int n, .ref b]) ∧ H b = some (.tup vs) ∧ Paired (RuleAt H) vs rs
def IntsAt (H : Hp) (v : V) (ns : List Int) : Prop := ∃ a : Addr, v = .ref a ∧ H a = some (.tup (ns.map V.int))
def kindS (up : Bool) : Str := if up = true then "raise" else "lower"
def StpAt (H : Hp) (v : V) (s : Stp) : Prop := ∃ a : Addr, v = .ref a ∧ H a = some (.tup [.str (kindS s.up), .int s.ev, .int s.tm])
def StpsAt (H : Hp) (v : V) (ss : List Stp) : Prop := ∃ (a : Addr) (vs : List V), v = .ref a ∧ H a = some (.tup vs) ∧ Paired (StpAt H) vs ss
def EdgeAt (H : Hp) (v : V) (e : Edge) : Prop := ∃ (a : Addr) (x : V), v = .ref a ∧ H a = some (.tup [x, .int e.1, .int e.2.1, .int e.2.2])
def EdgesAt (H : Hp) (v : V) (E : List Edge) : Prop := ∃ (a : Addr) (vs : List V), v = .ref a ∧ H a = some (.lst vs) ∧ Paired (EdgeAt H) vs E
def RowAt (H : Hp) (v : V) (row : List (Option Int)) : Prop := ∃ a : Addr, v = .ref a ∧ H a = some (.lst (row.map optV))
def TableAt (H : Hp) (v : V) (B : List (List (Option Int))) : Prop := ∃ (a : Addr) (vs : List V), v = .ref a ∧ H a = some (.lst vs) ∧ Paired (RowAt H) vs B
/-- a walk's entry: its length, a tuple of at most c edges -/
def WalkAt (H : Hp) (c : Nat) (v : V) (L : Int) : Prop := ∃ (p q : Addr) (ws : List V), v = .ref p ∧ H p = some (.tup [.int L, .ref q]) ∧ H q = some (.tup ws) ∧ ws.length ≤ c
def keyM (k : WK) : List Key := [Sum.inl (k.1 : Int), Sum.inl (k.2 : Int)]
def KvOk (H : Hp) (c : Nat) : List (List Key × V) → WD → Prop := Paired fun p q => p.1 = keyM q.1 ∧ WalkAt H c p.2 q.2
theorem pairedMono {α β : Type} {F G : α → β → Prop} (h : ∀ a b, F a b → G a b) {l : List α} {m : List β} (p : Paired F l m) : Paired G l m := Paired.mapP p h
section
variable {H H' : Hp} {v : V}
theorem RuleAt.mono (e : Tk H H') {r : Rule} (h : RuleAt H v r) : RuleAt H' v r := let ⟨a, h1, h2⟩ := h; ⟨a, h1, e _ _ h2⟩
theorem NetAt.mono (e : Tk H H') {n : Nat} {rs : List Rule} (h : NetAt H v n rs) : NetAt H' v n rs :=
  let ⟨a, b, vs, h1, h2, h3, h4⟩ := h
  ⟨a, b, vs, h1, e _ _ h2, e _ _ h3, pairedMono (fun _ _ z => RuleAt.mono e z) h4⟩
theorem IntsAt.mono (e : Tk H H') {ns : List Int} (h : IntsAt H v ns) : IntsAt H' v ns := let ⟨a, h1, h2⟩ := h; ⟨a, h1, e _ _ h2⟩
theorem StpAt.mono (e : Tk H H') {s : Stp} (h : StpAt H v s) : StpAt H' v s := let ⟨a, h1, h2⟩ := h; ⟨a, h1, e _ _ h2⟩
theorem StpsAt.mono (e : Tk H H') {ss : List Stp} (h : StpsAt H v ss) : StpsAt H' v ss :=
  let ⟨a, vs, h1, h2, h3⟩ := h
  ⟨a, vs, h1, e _ _ h2, pairedMono (fun _ _ z => StpAt.mono e z) h3⟩
theorem EdgeAt.mono (e : Tk H H') {x : Edge} (h : EdgeAt H v x) : EdgeAt H' v x := let ⟨a, y, h1, h2⟩ := h; ⟨a, y, h1, e _ _ h2⟩
theorem EdgesAt.mono (e : Same H H') {E : List Edge} (h : EdgesAt H v E) : EdgesAt H' v E :=
  let ⟨a, vs, h1, h2, h3⟩ := h
  ⟨a, vs, h1, e _ _ h2, pairedMono (fun _ _ z => EdgeAt.mono (tk_of e) z) h3⟩
theorem RowAt.mono (e : Same H H') {r : List (Option Int)} (h : RowAt H v r) : RowAt H' v r := let ⟨a, h1, h2⟩ := h; ⟨a, h1, e _ _ h2⟩
theorem TableAt.mono (e : Same H H') {B : List (List (Option Int))} (h : TableAt H v B) : TableAt H' v B :=
  let ⟨a, vs, h1, h2, h3⟩ := h
  ⟨a, vs, h1, e _ _ h2, pairedMono (fun _ _ z => RowAt.mono e z) h3⟩
theorem WalkAt.mono (e : Tk H H') {c d : Nat} (hc : c ≤ d) {L : Int} (h : WalkAt H c v L) : WalkAt H' d v L :=
  let ⟨p, q, ws, h1, h2, h3, h4⟩ := h
  ⟨p, q, ws, h1, e _ _ h2, e _ _ h3, Nat.le_trans h4 hc⟩
theorem KvOk.mono (e : Tk H H') {c d : Nat} (hc : c ≤ d) {kvs : List (List Key × V)} {D : WD} (h : KvOk H c kvs D) : KvOk H' d kvs D :=
  pairedMono (fun _ _ z => ⟨z.1, z.2.mono e hc⟩) h
end
theorem keyM_inj {a b : WK} (h : keyM a = keyM b) : a = b := by
  unfold keyM at h
  injection h with h1 h2
  injection h2 with h2 _
  have e1 := Int.ofNat.inj (Sum.inl.inj h1)
  have e2 := Int.ofNat.inj (Sum.inl.inj h2)
  exact Prod.ext e1 e2
theorem keyM_map (i j : Nat) : (keyM (i, j)).map kV = [V.int i, V.int j] := rfl
/-- looking up -/
theorem KvOk.look {H : Hp} {c : Nat} (k : WK) : ∀ {kvs : List (List Key × V)} {D : WD}, KvOk H c kvs D →
    (valV kvs (keyM k) = none ∧ AB.look D k = none) ∨ ∃ v L, valV kvs (keyM k) = some v ∧ AB.look D k = some L ∧ WalkAt H c v L
  | _, _, .nil => .inl ⟨rfl, rfl⟩
  | _, _, .cons (a := p) (b := q) ⟨h1, h2⟩ t => by
    by_cases e : q.1 = k
    · refine .inr ⟨p.2, q.2, valV_pos (by rw [h1, e]), ?_, h2⟩
      show (if q.1 = k then some q.2 else _) = _
      rw [if_pos e]
    · have e' : ¬ p.1 = keyM k := fun z => e (keyM_inj (h1.symm.trans z))
      rw [valV_neg e']
      show (_ ∧ (if q.1 = k then some q.2 else _) = none) ∨ _
      rcases KvOk.look k t with ⟨a1, a2⟩ | ⟨v, L, a1, a2, a3⟩
      · exact .inl ⟨a1, by rw [if_neg e]; exact a2⟩
      · exact .inr ⟨v, L, a1, by show (if q.1 = k then some q.2 else _) = _; rw [if_neg e]; exact a2, a3⟩
theorem KvOk.has {H : Hp} {c : Nat} {k : WK} {kvs : List (List Key × V)} {D : WD} (h : KvOk H c kvs D) : (kvs.any fun kv => decide (kv.1 = keyM k)) = AB.has D k := by
  rw [valV_any]
  unfold AB.has
  rcases h.look k with ⟨a, b⟩ | ⟨v, L, a, b, _⟩ <;> rw [a, b] <;> rfl
theorem KvOk.snoc {H : Hp} {c : Nat} {k : WK} {v : V} {L : Int} (hv : WalkAt H c v L) : ∀ {kvs : List (List Key × V)} {D : WD}, KvOk H c kvs D → KvOk H c (kvs ++ [(keyM k, v)]) (D ++ [(k, L)])
  | _, _, .nil => .cons ⟨rfl, hv⟩ .nil
  | _, _, .cons r t => .cons r (KvOk.snoc hv t)
theorem KvOk.repl {H : Hp} {c : Nat} {k : WK} {v : V} {L : Int} (hv : WalkAt H c v L) : ∀ {kvs : List (List Key × V)} {D : WD}, KvOk H c kvs D →
    KvOk H c (kvs.map fun kv => if kv.1 = keyM k then (kv.1, v) else kv) (AB.repl D k L)
  | _, _, .nil => .nil
  | _, _, .cons (a := p) (b := q) ⟨h1, h2⟩ t => by
    refine .cons ?_ (KvOk.repl hv t)
    by_cases e : q.1 = k
    · have e' : p.1 = keyM k := by rw [h1, e]
      simp only [if_pos e, if_pos e']
      exact ⟨h1, hv⟩
    · have e' : ¬ p.1 = keyM k := fun z => e (keyM_inj (h1.symm.trans z))
      simp only [if_neg e, if_neg e']
      exact ⟨h1, h2⟩
theorem KvOk.put {H : Hp} {c : Nat} {k : WK} {v : V} {L : Int} {kvs : List (List Key × V)} {D : WD} (h : KvOk H c kvs D) (hv : WalkAt H c v L) : KvOk H c (putK kvs (keyM k) v) (AB.put D k L) := by
  unfold putK AB.put
  rw [h.has]
  split
  · exact h.repl hv
  · exact h.snoc hv
theorem KvOk.length {H : Hp} {c : Nat} {kvs : List (List Key × V)} {D : WD} (h : KvOk H c kvs D) : kvs.length = D.length := Paired.length h
theorem KvOk.get {H : Hp} {c : Nat} {kvs : List (List Key × V)} {D : WD} (h : KvOk H c kvs D) {i : Nat} {k : List Key} {v : V} (e : kvs[i]? = some (k, v)) : ∃ q, D[i]? = some q ∧ k = keyM q.1 ∧ WalkAt H c v q.2 := by
  obtain ⟨q, h1, h2⟩ := paired_get h e
  exact ⟨q, h1, h2⟩
theorem paired_at {α β : Type} {F : α → β → Prop} {l : List α} {m : List β} (h : Paired F l m) {i : Nat} {b : β} (e : m[i]? = some b) : ∃ a, l[i]? = some a ∧ F a b := by
  have hl := Paired.length h
  obtain ⟨hi, _⟩ := List.getElem?_eq_some_iff.mp e
  have hi' : i < l.length := by omega
  obtain ⟨b', e1, e2⟩ := paired_get h (List.getElem?_eq_getElem hi')
  rw [e] at e1
  cases e1
  exact ⟨_, List.getElem?_eq_getElem hi', e2⟩
theorem small5 {n : Nat} (h : n ≤ 1000000) : n < sizeLine := Nat.lt_of_le_of_lt h (by decide)
end AbW
namespace AbW
open PySem PySem.Spec PyProof.Rows L2 AbR AB
section
variable {P : Program} {w : World} {K : PySem.W.Frag} {mg : Str → Option Value} {base : Heap}
/-! ### is_between -/
abbrev s_is_between : Stmt := topS 8
theorem sc_is_between : FnScope ["value", "low", "high"] ["value", "low", "high"] (defScope s_is_between) := ⟨rfl, rfl, rfl, by decide +kernel, rfl, by decide +kernel, by decide +kernel⟩
def spBetween : Sp := fun vs H Q _ => ∃ v lo hi : Int, vs = [.int v, .int lo, .int hi] ∧ Q (.bl (decide (lo ≤ v ∧ v ≤ hi))) H
theorem kn_is_between (gb : Gb mg) (D : Df K mg "is_between" "is_between" s_is_between) : Kn P w K mg base 1 "is_between" ["value", "low", "high"] spBetween := by
  refine kn_of D (fun _ _ _ _ _ _ us hl => match us, hl with | [_, _, _], _ => rfl) fun f fd F => F.ok sc_is_between (fun vs H Q E h => ?_) (fun cdv A outer s H vs Q E hr h => ?_)
  · obtain ⟨v, lo, hi, rfl, _⟩ := h
    rfl
  · obtain ⟨v, lo, hi, rfl, q⟩ := h
    refine ⟨_, (pss_one (ps_ret (pe_and (pe_callB call_isi (by rfl) gb.isinstance b_isinstance (pa_cons (pv 0) (pa_cons (pe_bint gb.int (by rfl)) pa_nil))) (pe_and (pe_not (pe_callB call_isi (by rfl) gb.isinstance b_isinstance (pa_cons (pv 0) (pa_cons (pe_bbool gb.bool (by rfl)) pa_nil)))) (pe_one (pe_chain op_le op_le (pv 1) (pv 0) (pv 2))))))), ?_⟩
    refine ⟨.int v, rfl, .int v, .ty "int", _, _, true, rfl, .ty _, .base (.int v), ki_ii, true, rfl, iteT ⟨.int v, rfl, .int v, .ty "bool", _, _, false, rfl, .ty _, .base (.int v), ki_ib, false, rfl, true, rfl, iteT ?_⟩⟩
    refine ⟨.int lo, rfl, .int v, rfl, lo, v, rfl, rfl, _, rfl, ite2 (fun e => ?_) (fun e => ?_)⟩
    · have e1 := of_decide_eq_true e
      refine ⟨.int hi, rfl, v, hi, rfl, rfl, ?_⟩
      have ed : decide (v ≤ hi) = decide (lo ≤ v ∧ v ≤ hi) := by simp [e1]
      show Q (.bl (decide (v ≤ hi))) H
      rw [ed]
      exact q
    · have e1 : ¬ lo ≤ v := fun z => e (decide_eq_true z)
      have ed : false = decide (lo ≤ v ∧ v ≤ hi) := by simp [e1]
      show Q (.bl false) H
      rw [ed]
      exact q
/-! ### is_side -/
def SideOk (o : Option Int) : Prop := ∀ i, o = some i → -100 ≤ i ∧ i ≤ 100
abbrev s_is_side : Stmt := topS 9
theorem sc_is_side : FnScope ["value"] ["value"] (defScope s_is_side) := ⟨rfl, rfl, rfl, by decide +kernel, rfl, by decide +kernel, by decide +kernel⟩
def spSide : Sp := fun vs H Q _ => ∃ o : Option Int, vs = [optV o] ∧ SideOk o ∧ Q (.bl true) H
theorem kn_is_side (gb : Gb mg) (gc : Gc mg) (k_is_between : Kn P w K mg base 1 "is_between" ["value", "low", "high"] spBetween) (D : Df K mg "is_side" "is_side" s_is_side) : Kn P w K mg base 2 "is_side" ["value"] spSide := by
  refine kn_of D (fun _ _ _ _ _ _ us hl => match us, hl with | [_], _ => rfl) fun f fd F => F.ok sc_is_side (fun vs H Q E h => ?_) (fun cdv A outer s H vs Q E hr h => ?_)
  · obtain ⟨o, rfl, _⟩ := h
    rfl
  · obtain ⟨o, rfl, ho, q⟩ := h
    refine ⟨_, (pss_one (ps_ret (pe_or (pe_cmpR op_isN (pv 0) pe_non (nomark _)) (pe_one (pe_kn k_is_between (hr.mono (by decide)) (by rfl) (pa_cons (pv 0) (pa_cons (pe_op op_sub pe_int (pe_cst gc.FARTHEST (by rfl))) (pa_cons (pe_cst gc.FARTHEST (by rfl)) pa_nil)))))))), ?_⟩
    cases o with
    | none => exact ⟨.non, rfl, rfl, true, rfl, iteT q⟩
    | some i =>
      obtain ⟨h1, h2⟩ := ho i rfl
      refine ⟨.int i, rfl, rfl, false, rfl, iteF ⟨.int i, rfl, 0, 100, rfl, rfl, i, -100, 100, rfl, ?_⟩⟩
      rw [decide_eq_true ⟨h1, h2⟩]
      exact q
/-! ### is_rule -/
structure RuleOk (n : Nat) (r : Rule) : Prop where
  s : r.s < n
  e : r.e < n
  ne : r.s ≠ r.e
  lo : SideOk r.lo
  hi : SideOk r.hi
  some : r.lo ≠ none ∨ r.hi ≠ none
abbrev s_is_rule : Stmt := topS 10
theorem sc_is_rule : FnScope ["value", "size", "start", "end", "low", "high"] ["value", "size"] (defScope s_is_rule) := ⟨rfl, rfl, rfl, by decide +kernel, rfl, by decide +kernel, by decide +kernel⟩
def spRule : Sp := fun vs H Q _ => ∃ (v : V) (n : Nat) (r : Rule), vs = [v, .int n] ∧ RuleAt H v r ∧ RuleOk n r ∧ Q (.bl true) H
theorem opt_dec (o : Option Int) : decide (optV o = .non) = o.isNone := by
  cases o <;> rfl
theorem kn_is_rule (gb : Gb mg) (gc : Gc mg) (k_is_between : Kn P w K mg base 1 "is_between" ["value", "low", "high"] spBetween) (k_is_side : Kn P w K mg base 2 "is_side" ["value"] spSide) (D : Df K mg "is_rule" "is_rule" s_is_rule) :
    Kn P w K mg base 3 "is_rule" ["value", "size"] spRule := by
  refine kn_of D (fun _ _ _ _ _ _ us hl => match us, hl with | [_, _], _ => rfl) fun f fd F => F.ok sc_is_rule (fun vs H Q E h => ?_) (fun cdv A outer s H vs Q E hr h => ?_)
  · obtain ⟨v, n, r, rfl, _⟩ := h
    rfl
  · obtain ⟨v, n, r, rfl, ⟨a, rfl, ha⟩, ok, q⟩ := h
    refine ⟨_, (pss_cons (ps_if (PW.pt (pw_or (pt_not (pt_val (pe_callB call_isi (by rfl) gb.isinstance b_isinstance (pa_cons (pv 0) (pa_cons (pe_btuple gb.tuple (by rfl)) pa_nil))))) (pw_or1 (pt_cmpR op_ne (pe_callB call_len_seq (by rfl) gb.len b_len (pa_cons (pv 0) pa_nil)) pe_int (nomark _))))) (pss_one (ps_ret pe_bl)) pss_nil)
      (pss_cons (ps_asg (pv 0) (pg_tupK (K := K) (n := 4) (by rfl) (pgs_cons (pg_name (i := 2) sc_is_rule.nd rfl (Or.inl rfl)) (pgs_cons (pg_name (i := 3) sc_is_rule.nd rfl (Or.inl rfl)) (pgs_cons (pg_name (i := 4) sc_is_rule.nd rfl (Or.inl rfl)) (pgs_cons (pg_name (i := 5) sc_is_rule.nd rfl (Or.inl rfl)) pgs_nil))))))
      (pss_cons (ps_if (PW.pt (pw_or (pt_not (pt_val (pe_kn k_is_between (hr.mono (by decide)) (by rfl) (pa_cons (pv 2) (pa_cons pe_int (pa_cons (pe_op op_sub (pv 1) pe_int) pa_nil)))))) (pw_or (pt_not (pt_val (pe_kn k_is_between (hr.mono (by decide)) (by rfl) (pa_cons (pv 3) (pa_cons pe_int (pa_cons (pe_op op_sub (pv 1) pe_int) pa_nil)))))) (pw_or1 (pt_cmpR op_eq (pv 2) (pv 3) (nomark _)))))) (pss_one (ps_ret pe_bl)) pss_nil)
      (pss_one (ps_ret (pe_and (pe_kn k_is_side (hr.mono (by decide)) (by rfl) (pa_cons (pv 4) pa_nil)) (pe_and (pe_kn k_is_side (hr.mono (by decide)) (by rfl) (pa_cons (pv 5) pa_nil)) (pe_one (pe_or (pe_cmpR op_notN (pv 4) pe_non (nomark _)) (pe_one (pe_cmpR op_notN (pv 5) pe_non (nomark _)))))))))))), ?_⟩
    have hs := ok.s
    have he := ok.e
    -- not isinstance(value, tuple) or len(value) != 4
    refine ⟨.ref a, rfl, _, .ty "tuple", _, _, true, rfl, .ty _, .base (.tup ha), ki_tt, true, rfl, iteF ⟨.ref a, rfl, a, _, rfl, .inr (SqT.of ha), rfl, _, rfl, iteF ?_⟩⟩
    -- start, end, low, high = value
    refine ⟨.ref a, rfl, a, _, rfl, SqT.of ha, rfl, _, _, rfl, _, _, rfl, _, _, rfl, _, _, rfl, rfl, ?_⟩
    refine ⟨.int r.s, rfl, .int n, rfl, n, 1, rfl, rfl, r.s, 0, (n : Int) - 1, rfl, ?_⟩
    rw [decide_eq_true (by omega)]
    refine ⟨true, rfl, iteF ⟨.int r.e, rfl, .int n, rfl, n, 1, rfl, rfl, r.e, 0, (n : Int) - 1, rfl, ?_⟩⟩
    rw [decide_eq_true (by omega)]
    refine ⟨true, rfl, iteF ⟨.int r.s, rfl, .int r.e, rfl, rfl, _, rfl, ?_⟩⟩
    rw [decide_eq_false (fun z => ok.ne (by have := V.int.inj z; omega))]
    refine iteF ?_
    refine ⟨optV r.lo, rfl, r.lo, rfl, ok.lo, true, rfl, iteT ⟨optV r.hi, rfl, r.hi, rfl, ok.hi, true, rfl, iteT ⟨optV r.lo, rfl, rfl, _, rfl, ?_⟩⟩⟩
    rw [opt_dec]
    cases hl : r.lo with
    | some i => exact q
    | none =>
      refine ⟨optV r.hi, rfl, rfl, ?_⟩
      rw [opt_dec]
      cases hh : r.hi with
      | some i => exact q
      | none => exact absurd hh (ok.some.resolve_left fun z => z hl)
/-! ### a comprehension over a tuple that gives True each time -/
theorem all_true (n : Nat) : (List.replicate n true).all id = true := by
  rw [List.all_eq_true]
  intro x hx
  exact (List.mem_replicate.mp hx).2
theorem lc_true {a : Addr} {xs : List V} {g : TG} {te : TE} {vs : List Nat} {σ : L2.St} {H1 : Hp} {D : Addr} {Qd : Hp → Prop} (hD : H1 D = none) (hT : SqT K H1 a xs) (hz : xs.length ≤ 1000)
    (hs : ∀ (i : Nat) (x : V) (H : Hp), Same H1 H → xs[i]? = some x → ∀ Q : VK, (∀ H', Same H H' → Q (.bl true) H') → g x (wipe σ vs) H fun σ2 H2 => wipe σ2 vs = wipe σ vs ∧ te σ2 H2 Q)
    (hd : ∀ H', Same H1 H' → H' D = some (.lst ((List.replicate xs.length true).map V.bl)) → Qd H') :
    ∃ W : Nat → Nat → Hp → Prop, (∃ m, W 0 m (upd H1 D (.lst []))) ∧ ∀ i m H, W i m H →
      ((Itt K a).stop i H ∧ Qd H) ∨ ((Itt K a).go i H ∧ ∃ Nx : Hp → Prop, (∀ H', Nx H' → ∃ m', m' < m ∧ W (i + 1) m' H') ∧ ∀ x H', (Itt K a).yld i H x H' → g x (wipe σ vs) H' fun σ2 H2 => wipe σ2 vs = wipe σ vs ∧ tYes σ2 H2 fun b H3 =>
        if b = true then te σ2 H3 fun y H4 => ∃ acc, H4 D = some (.lst acc) ∧ acc.length < sizeLine ∧ Nx (upd H4 D (.lst (acc ++ [y]))) else Nx H3) := by
  have seqT : ∀ {H : Hp}, Same H1 H → SqT K H a xs := fun {H} e => by
    rcases hT with (h | ⟨o, h⟩) | h
    · exact .inl (.inl (e _ _ h))
    · exact .inl (.inr ⟨o, e _ _ h⟩)
    · exact .inr h
  refine lc_tup (xs := xs) (fun i H => Same H1 H ∧ H D = some (.lst ((List.replicate i true).map V.bl))) ⟨same_new hD, upd_same⟩ (fun i H _ p => seqT p.1) (fun i x H hx p => ?_) (fun H p => hd H p.1 p.2)
  have hi : i < xs.length := (List.getElem?_eq_some_iff.mp hx).1
  refine hs i x H p.1 hx _ fun H' e => ⟨_, e _ _ p.2, ?_, same_mut (p.1.trans e) hD, ?_⟩
  · rw [List.length_map, List.length_replicate]
    exact small5 (by omega)
  · rw [upd_same, List.replicate_succ', List.map_append]
    rfl
/-! ### is_net -/
structure NetOk (n : Nat) (rs : List Rule) : Prop where
  lo : 1 ≤ n
  hi : n ≤ 6
  len : rs.length ≤ 12
  ok : ∀ r ∈ rs, RuleOk n r
abbrev s_is_net : Stmt := topS 11
theorem sc_is_net : FnScope ["value", "rule"] ["value"] (defScope s_is_net) := ⟨rfl, rfl, rfl, by decide +kernel, rfl, by decide +kernel, by decide +kernel⟩
def spNet : Sp := fun vs H Q _ => ∃ (v : V) (n : Nat) (rs : List Rule), vs = [v] ∧ NetAt H v n rs ∧ NetOk n rs ∧ ∀ H', Same H H' → Q (.bl true) H'
theorem kn_is_net (gb : Gb mg) (gc : Gc mg) (k_is_between : Kn P w K mg base 1 "is_between" ["value", "low", "high"] spBetween) (k_is_rule : Kn P w K mg base 3 "is_rule" ["value", "size"] spRule) (D : Df K mg "is_net" "is_net" s_is_net) :
    Kn P w K mg base 4 "is_net" ["value"] spNet := by
  refine kn_of D (fun _ _ _ _ _ _ us hl => match us, hl with | [_], _ => rfl) fun f fd F => F.ok sc_is_net (fun vs H Q E h => ?_) (fun cdv A outer s H vs Q E hr h => ?_)
  · obtain ⟨v, n, rs, rfl, _⟩ := h
    rfl
  · obtain ⟨v, n, rs, rfl, ⟨a, b, us, rfl, ha, hb, hp⟩, ok, q⟩ := h
    refine ⟨_, (pss_cons (ps_if (PW.pt (pw_or (pt_not (pt_val (pe_callB call_isi (by rfl) gb.isinstance b_isinstance (pa_cons (pv 0) (pa_cons (pe_btuple gb.tuple (by rfl)) pa_nil))))) (pw_or (pt_cmpR op_ne (pe_callB call_len_seq (by rfl) gb.len b_len (pa_cons (pv 0) pa_nil)) pe_int (nomark _)) (pw_or1 (pt_not (pt_val (pe_kn k_is_between (hr.mono (by decide)) (by rfl) (pa_cons (pe_ix (ixT (K := K)) (pv 0) pe_int (fun _ _ => rfl)) (pa_cons pe_int (pa_cons (pe_cst gc.MOST_EVENTS (by rfl)) pa_nil)))))))))) (pss_one (ps_ret pe_bl)) pss_nil)
      (pss_cons (ps_if (PW.pt (pw_or (pt_not (pt_val (pe_callB call_isi (by rfl) gb.isinstance b_isinstance (pa_cons (pe_ix (ixT (K := K)) (pv 0) pe_int (fun _ _ => rfl)) (pa_cons (pe_btuple gb.tuple (by rfl)) pa_nil))))) (pw_or1 (pt_cmpR op_gt (pe_callB call_len_seq (by rfl) gb.len b_len (pa_cons (pe_ix (ixT (K := K)) (pv 0) pe_int (fun _ _ => rfl)) pa_nil)) (pe_cst gc.MOST_RULES (by rfl)) (nomark _))))) (pss_one (ps_ret pe_bl)) pss_nil)
      (pss_one (ps_ret (pe_callB (cr_all (by rfl)) (by rfl) gb.all b_all (pa_cons (pe_lc (own := [("rule", 1)]) (by rfl) sc_is_net.nd (pi_tup (pe_ix (ixT (K := K)) (pv 0) pe_int (fun _ _ => rfl))) (blkOk_by (own := [("rule", 1)]) (N := ["value", "rule"]) (sc := (defScope s_is_net)) (by decide +kernel)) (fun _ _ _ _ _ => (pg_name (i := 1) sc_is_net.nd rfl (by first | exact Or.inl rfl | exact Or.inr rfl))) (fun _ _ _ _ _ => pts_nil) (fun _ _ _ _ _ => (pe_kn k_is_rule (hr.mono (by decide)) (by rfl) (pa_cons (pv 1) (pa_cons (pe_ix (ixT (K := K)) (pv 0) pe_int (fun _ _ => rfl)) pa_nil))))) pa_nil)))))), ?_⟩
    have h1 := ok.lo
    have h2 := ok.hi
    have h3 := ok.len
    have hl : us.length = rs.length := Paired.length hp
    refine ⟨.ref a, rfl, _, .ty "tuple", _, _, true, rfl, .ty _, .base (.tup ha), ki_tt, true, rfl, iteF ⟨.ref a, rfl, a, _, rfl, .inr (SqT.of ha), rfl, _, rfl, iteF ?_⟩⟩
    refine ⟨.ref a, rfl, a, _, 0, _, rfl, rfl, SqT.of ha, atI_nat (j := 0) rfl, n, 1, 6, rfl, _, rfl, iteNS ⟨by omega, by omega⟩ ?_⟩
    refine ⟨.ref a, rfl, a, _, 1, _, rfl, rfl, SqT.of ha, atI_nat (j := 1) rfl, _, .ty "tuple", _, _, true, rfl, .ty _, .base (.tup hb), ki_tt, true, rfl, iteF ?_⟩
    refine ⟨.ref a, rfl, a, _, 1, _, rfl, rfl, SqT.of ha, atI_nat (j := 1) rfl, b, _, rfl, .inr (SqT.of hb), us.length, 12, rfl, rfl, _, rfl, ite2 (fun z => absurd (of_decide_eq_true z) (by omega)) fun _ => ?_⟩
    refine ⟨.ref a, rfl, a, _, 1, _, rfl, rfl, SqT.of ha, atI_nat (j := 1) rfl, b, rfl, ⟨us, SqT.of hb⟩, fun D hD => lc_true hD (SqT.of hb) (by omega) (fun i x H' e hx Q' q' => ⟨rfl, ?_⟩) fun H' e hl => ?_⟩
    · obtain ⟨r, hr', hx'⟩ := paired_get hp hx
      exact ⟨x, rfl, .ref a, rfl, a, _, 0, _, rfl, rfl, SqT.of (e _ _ ha), atI_nat (j := 0) rfl, x, n, r, rfl, hx'.mono (tk_of e), ok.ok r (List.mem_of_getElem? hr'), q' _ (Same.refl _)⟩
    · refine ⟨D, List.replicate us.length true, rfl, SqL.of hl, ?_⟩
      rw [all_true]
      exact q _ e
/-! ### is_times -/
abbrev s_is_times : Stmt := topS 12
theorem sc_is_times : FnScope ["value", "net", "one"] ["value", "net"] (defScope s_is_times) := ⟨rfl, rfl, rfl, by decide +kernel, rfl, by decide +kernel, by decide +kernel⟩
def spTimes : Sp := fun vs H Q _ => ∃ (tv nv : V) (n : Nat) (rs : List Rule) (t : List Int), vs = [tv, nv] ∧ IntsAt H tv t ∧ NetAt H nv n rs ∧ t.length = n ∧ n ≤ 6 ∧ (∀ x ∈ t, -1000 ≤ x ∧ x ≤ 1000) ∧ ∀ H', Same H H' → Q (.bl true) H'
theorem kn_is_times (gb : Gb mg) (gc : Gc mg) (k_is_between : Kn P w K mg base 1 "is_between" ["value", "low", "high"] spBetween) (D : Df K mg "is_times" "is_times" s_is_times) : Kn P w K mg base 2 "is_times" ["value", "net"] spTimes := by
  refine kn_of D (fun _ _ _ _ _ _ us hl => match us, hl with | [_, _], _ => rfl) fun f fd F => F.ok sc_is_times (fun vs H Q E h => ?_) (fun cdv A outer s H vs Q E hr h => ?_)
  · obtain ⟨tv, nv, n, rs, t, rfl, _⟩ := h
    rfl
  · obtain ⟨tv, nv, n, rs, t, rfl, ⟨a, rfl, ha⟩, ⟨b, c, us, rfl, hb, _, _⟩, hl, hn, ht, q⟩ := h
    refine ⟨_, (pss_cons (ps_if (PW.pt (pw_or (pt_not (pt_val (pe_callB call_isi (by rfl) gb.isinstance b_isinstance (pa_cons (pv 0) (pa_cons (pe_btuple gb.tuple (by rfl)) pa_nil))))) (pw_or1 (pt_cmpR op_ne (pe_callB call_len_seq (by rfl) gb.len b_len (pa_cons (pv 0) pa_nil)) (pe_ix (ixT (K := K)) (pv 1) pe_int (fun _ _ => rfl)) (nomark _))))) (pss_one (ps_ret pe_bl)) pss_nil)
      (pss_one (ps_ret (pe_callB (cr_all (by rfl)) (by rfl) gb.all b_all (pa_cons (pe_lc (own := [("one", 2)]) (by rfl) sc_is_times.nd (pi_tup (pv 0)) (blkOk_by (own := [("one", 2)]) (N := ["value", "net", "one"]) (sc := (defScope s_is_times)) (by decide +kernel)) (fun _ _ _ _ _ => (pg_name (i := 2) sc_is_times.nd rfl (by first | exact Or.inl rfl | exact Or.inr rfl))) (fun _ _ _ _ _ => pts_nil) (fun _ _ _ _ _ => (pe_kn k_is_between (hr.mono (by decide)) (by rfl) (pa_cons (pv 2) (pa_cons (pe_op op_sub pe_int (pe_cst gc.LATEST (by rfl))) (pa_cons (pe_cst gc.LATEST (by rfl)) pa_nil)))))) pa_nil))))), ?_⟩
    refine ⟨.ref a, rfl, _, .ty "tuple", _, _, true, rfl, .ty _, .base (.tup ha), ki_tt, true, rfl, iteF ⟨.ref a, rfl, a, _, rfl, .inr (SqT.of ha), .ref b, rfl, b, _, 0, _, rfl, rfl, SqT.of hb, atI_nat (j := 0) rfl, rfl, _, rfl, iteNS ?_ ?_⟩⟩
    · show V.int _ = V.int _
      rw [List.length_map, hl]
    · refine ⟨.ref a, rfl, a, rfl, ⟨_, SqT.of ha⟩, fun D hD => lc_true hD (SqT.of ha) (by rw [List.length_map]; omega) (fun i x H' e hx Q' q' => ⟨rfl, ?_⟩) fun H' e hl => ?_⟩
      · rw [List.getElem?_map] at hx
        cases hti : t[i]? with
        | none => rw [hti] at hx; cases hx
        | some y =>
          rw [hti] at hx
          cases hx
          obtain ⟨b1, b2⟩ := ht y (List.mem_of_getElem? hti)
          refine ⟨.int y, rfl, 0, 1000, rfl, rfl, y, -1000, 1000, rfl, ?_⟩
          rw [decide_eq_true ⟨b1, b2⟩]
          exact q' _ (Same.refl _)
      · refine ⟨D, List.replicate _ true, rfl, SqL.of hl, ?_⟩
        rw [all_true]
        exact q _ e
/-! ### check_net, check_times -/
abbrev s_check_net_nets : Stmt := topS 13
theorem sc_check_net_nets : FnScope ["net"] ["net"] (defScope s_check_net_nets) := ⟨rfl, rfl, rfl, by decide +kernel, rfl, by decide +kernel, by decide +kernel⟩
abbrev s_check_net_bounds : Stmt := topS 23
theorem sc_check_net_bounds : FnScope ["net"] ["net"] (defScope s_check_net_bounds) := ⟨rfl, rfl, rfl, by decide +kernel, rfl, by decide +kernel, by decide +kernel⟩
abbrev s_check_times_nets : Stmt := topS 15
theorem sc_check_times_nets : FnScope ["net", "times"] ["net", "times"] (defScope s_check_times_nets) := ⟨rfl, rfl, rfl, by decide +kernel, rfl, by decide +kernel, by decide +kernel⟩
def spCheckNet : Sp := fun vs H Q _ => ∃ (v : V) (n : Nat) (rs : List Rule), vs = [v] ∧ NetAt H v n rs ∧ NetOk n rs ∧ ∀ H', Same H H' → Q .non H'
theorem kn_check_net_nets (k_is_net : Kn P w K mg base 4 "is_net" ["value"] spNet) (D : Df K mg "check_net_nets" "check_net" s_check_net_nets) : Kn P w K mg base 5 "check_net_nets" ["net"] spCheckNet := by
  refine kn_of D (fun _ _ _ _ _ _ us hl => match us, hl with | [_], _ => rfl) fun f fd F => F.ok sc_check_net_nets (fun vs H Q E h => ?_) (fun cdv A outer s H vs Q E hr h => ?_)
  · obtain ⟨v, n, rs, rfl, _⟩ := h
    rfl
  · obtain ⟨v, n, rs, rfl, hn, ok, q⟩ := h
    exact ⟨_, (pss_one (ps_if (pt_not (pt_val (pe_kn k_is_net (hr.mono (by decide)) (by rfl) (pa_cons (pv 0) pa_nil)))) (pss_one ps_never) pss_nil)), v, rfl, v, n, rs, rfl, hn, ok, fun H' e => ⟨true, rfl, iteF (q _ e)⟩⟩
theorem kn_check_net_bounds (k_is_net : Kn P w K mg base 4 "is_net" ["value"] spNet) (D : Df K mg "check_net_bounds" "check_net" s_check_net_bounds) : Kn P w K mg base 5 "check_net_bounds" ["net"] spCheckNet := by
  refine kn_of D (fun _ _ _ _ _ _ us hl => match us, hl with | [_], _ => rfl) fun f fd F => F.ok sc_check_net_bounds (fun vs H Q E h => ?_) (fun cdv A outer s H vs Q E hr h => ?_)
  · obtain ⟨v, n, rs, rfl, _⟩ := h
    rfl
  · obtain ⟨v, n, rs, rfl, hn, ok, q⟩ := h
    exact ⟨_, (pss_one (ps_if (pt_not (pt_val (pe_kn k_is_net (hr.mono (by decide)) (by rfl) (pa_cons (pv 0) pa_nil)))) (pss_one ps_never) pss_nil)), v, rfl, v, n, rs, rfl, hn, ok, fun H' e => ⟨true, rfl, iteF (q _ e)⟩⟩
/-- times of a net -/
structure TimesOk (n : Nat) (t : List Int) : Prop where
  len : t.length = n
  big : ∀ x ∈ t, -1000 ≤ x ∧ x ≤ 1000
def spCheckTimes : Sp := fun vs H Q _ => ∃ (nv tv : V) (n : Nat) (rs : List Rule) (t : List Int), vs = [nv, tv] ∧ NetAt H nv n rs ∧ IntsAt H tv t ∧ NetOk n rs ∧ TimesOk n t ∧ ∀ H', Same H H' → Q .non H'
theorem kn_check_times_nets (k_check_net_nets : Kn P w K mg base 5 "check_net_nets" ["net"] spCheckNet) (k_is_times : Kn P w K mg base 2 "is_times" ["value", "net"] spTimes) (D : Df K mg "check_times_nets" "check_times" s_check_times_nets) :
    Kn P w K mg base 6 "check_times_nets" ["net", "times"] spCheckTimes := by
  refine kn_of D (fun _ _ _ _ _ _ us hl => match us, hl with | [_, _], _ => rfl) fun f fd F => F.ok sc_check_times_nets (fun vs H Q E h => ?_) (fun cdv A outer s H vs Q E hr h => ?_)
  · obtain ⟨v, tv, n, rs, t, rfl, _⟩ := h
    rfl
  · obtain ⟨v, tv, n, rs, t, rfl, hn, ht, ok, tok, q⟩ := h
    refine ⟨_, (pss_cons (ps_expr (pe_kn k_check_net_nets (hr.mono (by decide)) (by rfl) (pa_cons (pv 0) pa_nil)))
      (pss_one (ps_if (pt_not (pt_val (pe_kn k_is_times (hr.mono (by decide)) (by rfl) (pa_cons (pv 1) (pa_cons (pv 0) pa_nil))))) (pss_one ps_never) pss_nil))), v, rfl, v, n, rs, rfl, hn, ok, fun H' e => ?_⟩
    exact ⟨tv, rfl, v, rfl, tv, v, n, rs, t, rfl, ht.mono (tk_of e), hn.mono (tk_of e), tok.len, ok.hi, tok.big, fun H2 e2 => ⟨true, rfl, iteF (q _ (e.trans e2))⟩⟩
/-! ### excess_of, all_hold, keeps -/
abbrev s_excess_of : Stmt := topS 17
theorem sc_excess_of : FnScope ["rule", "times", "start", "end", "low", "high", "far"] ["rule", "times"] (defScope s_excess_of) := ⟨rfl, rfl, rfl, by decide +kernel, rfl, by decide +kernel, by decide +kernel⟩
def spExcess : Sp := fun vs H Q _ => ∃ (rv tv : V) (r : Rule) (t : List Int), vs = [rv, tv] ∧ RuleAt H rv r ∧ IntsAt H tv t ∧ r.s < t.length ∧ r.e < t.length ∧ Holds t r ∧ Q (.int 0) H
theorem at_int {t : List Int} {i : Nat} (h : i < t.length) : atI (t.map V.int) (i : Int) = some (.int (tt t i)) := by
  refine atI_nat ?_
  rw [List.getElem?_map, List.getElem?_eq_getElem h]
  show some (V.int t[i]) = some (V.int (t.getD i 0))
  rw [List.getD_eq_getElem?_getD, List.getElem?_eq_getElem h]
  rfl
theorem kn_excess_of (D : Df K mg "excess_of" "excess_of" s_excess_of) : Kn P w K mg base 1 "excess_of" ["rule", "times"] spExcess := by
  refine kn_of D (fun _ _ _ _ _ _ us hl => match us, hl with | [_, _], _ => rfl) fun f fd F => F.ok sc_excess_of (fun vs H Q E h => ?_) (fun cdv A outer s H vs Q E hr h => ?_)
  · obtain ⟨rv, tv, r, t, rfl, _⟩ := h
    rfl
  · obtain ⟨rv, tv, r, t, rfl, ⟨a, rfl, ha⟩, ⟨b, rfl, hb⟩, h1, h2, ⟨hlo, hhi⟩, q⟩ := h
    refine ⟨_, (pss_cons (ps_asg (pv 0) (pg_tupK (K := K) (n := 4) (by rfl) (pgs_cons (pg_name (i := 2) sc_excess_of.nd rfl (Or.inl rfl)) (pgs_cons (pg_name (i := 3) sc_excess_of.nd rfl (Or.inl rfl)) (pgs_cons (pg_name (i := 4) sc_excess_of.nd rfl (Or.inl rfl)) (pgs_cons (pg_name (i := 5) sc_excess_of.nd rfl (Or.inl rfl)) pgs_nil))))))
      (pss_cons (ps_set (i := 6) sc_excess_of.nd rfl (Or.inl rfl) (pe_op op_sub (pe_ix (ixT (K := K)) (pv 1) (pv 3) (fun _ _ => rfl)) (pe_ix (ixT (K := K)) (pv 1) (pv 2) (fun _ _ => rfl))))
      (pss_cons (ps_if (PW.pt (pw_and (pt_cmpR op_notN (pv 4) pe_non (nomark _)) (pw_and1 (pt_cmpR op_lt (pv 6) (pv 4) (nomark _))))) (pss_one (ps_ret (pe_op op_sub (pv 6) (pv 4)))) pss_nil)
      (pss_cons (ps_if (PW.pt (pw_and (pt_cmpR op_notN (pv 5) pe_non (nomark _)) (pw_and1 (pt_cmpR op_gt (pv 6) (pv 5) (nomark _))))) (pss_one (ps_ret (pe_op op_sub (pv 6) (pv 5)))) pss_nil)
      (pss_one (ps_ret pe_int)))))), ?_⟩
    refine ⟨.ref a, rfl, a, _, rfl, SqT.of ha, rfl, _, _, rfl, _, _, rfl, _, _, rfl, _, _, rfl, rfl, ?_⟩
    refine ⟨.ref b, rfl, .int r.e, rfl, b, _, _, _, rfl, rfl, SqT.of hb, at_int h2, .ref b, rfl, .int r.s, rfl, b, _, _, _, rfl, rfl, SqT.of hb, at_int h1, _, _, rfl, rfl, ?_⟩
    have lo : ∀ (D : Ends) (t1 t2 : TS), t2 D [some (.ref a), some (.ref b), some (.int r.s), some (.int r.e), some (optV r.lo), some (optV r.hi), some (.int (tt t r.e - tt t r.s))] H → 
        tIfS (tAnd (tTest (tOp (fun x y H Q => y = .non ∧ Q (.bl (!decide (x = .non))) H) (tVar 4) (tC .non))) (tTest (tOp (rI0 fun i j => .bl (decide (i < j))) (tVar 6) (tVar 4)))) t1 t2 D
          [some (.ref a), some (.ref b), some (.int r.s), some (.int r.e), some (optV r.lo), some (optV r.hi), some (.int (tt t r.e - tt t r.s))] H := fun D t1 t2 k => by
      refine ⟨optV r.lo, rfl, rfl, _, rfl, ?_⟩
      rw [opt_dec]
      cases hl : r.lo with
      | none =>
        rw [hl] at k
        exact k
      | some l =>
        rw [hl] at k
        refine ⟨.int _, rfl, .int l, rfl, _, l, rfl, rfl, _, rfl, ?_⟩
        rw [decide_eq_false (by have := hlo l hl; omega)]
        exact k
    refine lo _ _ _ ?_
    refine ⟨optV r.hi, rfl, rfl, _, rfl, ?_⟩
    rw [opt_dec]
    cases hl : r.hi with
    | none => exact q
    | some l =>
      refine ⟨.int _, rfl, .int l, rfl, _, l, rfl, rfl, _, rfl, ?_⟩
      rw [decide_eq_false (by have := hhi l hl; omega)]
      exact q
abbrev s_all_hold : Stmt := topS 18
theorem sc_all_hold : FnScope ["net", "times", "rule"] ["net", "times"] (defScope s_all_hold) := ⟨rfl, rfl, rfl, by decide +kernel, rfl, by decide +kernel, by decide +kernel⟩
def spHold : Sp := fun vs H Q _ => ∃ (nv tv : V) (n : Nat) (rs : List Rule) (t : List Int), vs = [nv, tv] ∧ NetAt H nv n rs ∧ IntsAt H tv t ∧ NetOk n rs ∧ t.length = n ∧ Kept t rs ∧ ∀ H', Same H H' → Q (.bl true) H'
theorem kn_all_hold (gb : Gb mg) (k_excess_of : Kn P w K mg base 1 "excess_of" ["rule", "times"] spExcess) (D : Df K mg "all_hold" "all_hold" s_all_hold) : Kn P w K mg base 2 "all_hold" ["net", "times"] spHold := by
  refine kn_of D (fun _ _ _ _ _ _ us hl => match us, hl with | [_, _], _ => rfl) fun f fd F => F.ok sc_all_hold (fun vs H Q E h => ?_) (fun cdv A outer s H vs Q E hr h => ?_)
  · obtain ⟨nv, tv, n, rs, t, rfl, _⟩ := h
    rfl
  · obtain ⟨nv, tv, n, rs, t, rfl, ⟨a, b, us, rfl, ha, hb, hp⟩, ⟨c, rfl, hc⟩, ok, hl, kept, q⟩ := h
    refine ⟨_, (pss_one (ps_ret (pe_callB (cr_all (by rfl)) (by rfl) gb.all b_all (pa_cons (pe_lc (own := [("rule", 2)]) (by rfl) sc_all_hold.nd (pi_tup (pe_ix (ixT (K := K)) (pv 0) pe_int (fun _ _ => rfl))) (blkOk_by (own := [("rule", 2)]) (N := ["net", "times", "rule"]) (sc := (defScope s_all_hold)) (by decide +kernel)) (fun _ _ _ _ _ => (pg_name (i := 2) sc_all_hold.nd rfl (by first | exact Or.inl rfl | exact Or.inr rfl))) (fun _ _ _ _ _ => pts_nil) (fun _ _ _ _ _ => (pe_cmpR op_eq (pe_kn k_excess_of (hr.mono (by decide)) (by rfl) (pa_cons (pv 2) (pa_cons (pv 1) pa_nil))) pe_int (nomark _)))) pa_nil)))), ?_⟩
    have hlen : us.length = rs.length := Paired.length hp
    have hlen2 := ok.len
    refine ⟨.ref a, rfl, a, _, 1, _, rfl, rfl, SqT.of ha, atI_nat (j := 1) rfl, b, rfl, ⟨us, SqT.of hb⟩, fun D hD => lc_true hD (SqT.of hb) (by omega) (fun i x H' e hx Q' q' => ⟨rfl, ?_⟩) fun H' e hl => ?_⟩
    · obtain ⟨r, hr', hx'⟩ := paired_get hp hx
      have hm := List.mem_of_getElem? hr'
      refine ⟨x, rfl, .ref c, rfl, x, .ref c, r, t, rfl, hx'.mono (tk_of e), ⟨c, rfl, e _ _ hc⟩, by have := (ok.ok r hm).s; omega, by have := (ok.ok r hm).e; omega, kept r hm, rfl, ?_⟩
      exact q' _ (Same.refl _)
    · refine ⟨D, List.replicate us.length true, rfl, SqL.of hl, ?_⟩
      rw [all_true]
      exact q _ e
abbrev s_keeps : Stmt := topS 19
theorem sc_keeps : FnScope ["net", "times"] ["net", "times"] (defScope s_keeps) := ⟨rfl, rfl, rfl, by decide +kernel, rfl, by decide +kernel, by decide +kernel⟩
def spKeeps : Sp := fun vs H Q _ => ∃ (nv tv : V) (n : Nat) (rs : List Rule) (t : List Int), vs = [nv, tv] ∧ NetAt H nv n rs ∧ IntsAt H tv t ∧ NetOk n rs ∧ TimesOk n t ∧ Kept t rs ∧ ∀ H', Same H H' → Q (.bl true) H'
theorem kn_keeps (k_check_times_nets : Kn P w K mg base 6 "check_times_nets" ["net", "times"] spCheckTimes) (k_all_hold : Kn P w K mg base 2 "all_hold" ["net", "times"] spHold) (D : Df K mg "keeps" "keeps" s_keeps) :
    Kn P w K mg base 7 "keeps" ["net", "times"] spKeeps := by
  refine kn_of D (fun _ _ _ _ _ _ us hl => match us, hl with | [_, _], _ => rfl) fun f fd F => F.ok sc_keeps (fun vs H Q E h => ?_) (fun cdv A outer s H vs Q E hr h => ?_)
  · obtain ⟨nv, tv, n, rs, t, rfl, _⟩ := h
    rfl
  · obtain ⟨v, tv, n, rs, t, rfl, hn, ht, ok, tok, kept, q⟩ := h
    refine ⟨_, (pss_cons (ps_expr (pe_kn k_check_times_nets (hr.mono (by decide)) (by rfl) (pa_cons (pv 0) (pa_cons (pv 1) pa_nil))))
      (pss_one (ps_ret (pe_kn k_all_hold (hr.mono (by decide)) (by rfl) (pa_cons (pv 0) (pa_cons (pv 1) pa_nil)))))), v, rfl, tv, rfl, v, tv, n, rs, t, rfl, hn, ht, ok, tok, fun H' e => ?_⟩
    exact ⟨v, rfl, tv, rfl, v, tv, n, rs, t, rfl, hn.mono (tk_of e), ht.mono (tk_of e), ok, tok.len, kept, fun H2 e2 => q _ (e.trans e2)⟩
abbrev s_check_times_repair : Stmt := topS 32
theorem sc_check_times_repair : FnScope ["net", "times"] ["net", "times"] (defScope s_check_times_repair) := ⟨rfl, rfl, rfl, by decide +kernel, rfl, by decide +kernel, by decide +kernel⟩
def spCheckKept : Sp := fun vs H Q _ => ∃ (nv tv : V) (n : Nat) (rs : List Rule) (t : List Int), vs = [nv, tv] ∧ NetAt H nv n rs ∧ IntsAt H tv t ∧ NetOk n rs ∧ TimesOk n t ∧ Kept t rs ∧ ∀ H', Same H H' → Q .non H'
theorem kn_check_times_repair (k_is_times : Kn P w K mg base 2 "is_times" ["value", "net"] spTimes) (k_all_hold : Kn P w K mg base 2 "all_hold" ["net", "times"] spHold) (D : Df K mg "check_times_repair" "check_times" s_check_times_repair) :
    Kn P w K mg base 3 "check_times_repair" ["net", "times"] spCheckKept := by
  refine kn_of D (fun _ _ _ _ _ _ us hl => match us, hl with | [_, _], _ => rfl) fun f fd F => F.ok sc_check_times_repair (fun vs H Q E h => ?_) (fun cdv A outer s H vs Q E hr h => ?_)
  · obtain ⟨nv, tv, n, rs, t, rfl, _⟩ := h
    rfl
  · obtain ⟨v, tv, n, rs, t, rfl, hn, ht, ok, tok, kept, q⟩ := h
    refine ⟨_, (pss_one (ps_if (PW.pt (pw_or (pt_not (pt_val (pe_kn k_is_times (hr.mono (by decide)) (by rfl) (pa_cons (pv 1) (pa_cons (pv 0) pa_nil))))) (pw_or1 (pt_not (pt_val (pe_kn k_all_hold (hr.mono (by decide)) (by rfl) (pa_cons (pv 0) (pa_cons (pv 1) pa_nil)))))))) (pss_one ps_never) pss_nil)), tv, rfl, v, rfl, tv, v, n, rs, t, rfl, ht, hn, tok.len, ok.hi, tok.big, fun H1 e => ⟨true, rfl, iteF ?_⟩⟩
    exact ⟨v, rfl, tv, rfl, v, tv, n, rs, t, rfl, hn.mono (tk_of e), ht.mono (tk_of e), ok, tok.len, kept, fun H2 e2 => ⟨true, rfl, iteF (q _ (e.trans e2))⟩⟩
end
end AbW
namespace AbW
open PySem PySem.Spec PyProof.Rows L2 AbR AB
section
variable {P : Program} {w : World} {K : PySem.W.Frag} {mg : Str → Option Value} {base : Heap}
/-! ### is_integer, is_event_time, is_step, are_steps, check_steps -/
abbrev s_is_integer : Stmt := topS 22
theorem sc_is_integer : FnScope ["value"] ["value"] (defScope s_is_integer) := ⟨rfl, rfl, rfl, by decide +kernel, rfl, by decide +kernel, by decide +kernel⟩
def spInteger : Sp := fun vs H Q _ => ∃ v : Int, vs = [.int v] ∧ Q (.bl true) H
theorem kn_is_integer (gb : Gb mg) (D : Df K mg "is_integer" "is_integer" s_is_integer) : Kn P w K mg base 1 "is_integer" ["value"] spInteger := by
  refine kn_of D (fun _ _ _ _ _ _ us hl => match us, hl with | [_], _ => rfl) fun f fd F => F.ok sc_is_integer (fun vs H Q E h => ?_) (fun cdv A outer s H vs Q E hr h => ?_)
  · obtain ⟨v, rfl, _⟩ := h
    rfl
  · obtain ⟨v, rfl, q⟩ := h
    exact ⟨_, (pss_one (ps_ret (pe_and (pe_callB call_isi (by rfl) gb.isinstance b_isinstance (pa_cons (pv 0) (pa_cons (pe_bint gb.int (by rfl)) pa_nil))) (pe_one (pe_not (pe_callB call_isi (by rfl) gb.isinstance b_isinstance (pa_cons (pv 0) (pa_cons (pe_bbool gb.bool (by rfl)) pa_nil)))))))), .int v, rfl, .int v, .ty "int", _, _, true, rfl, .ty _, .base (.int v), ki_ii, true, rfl, iteT ⟨.int v, rfl, .int v, .ty "bool", _, _, false, rfl, .ty _, .base (.int v), ki_ib, false, rfl, q⟩⟩
/-- a step of the text: an event from 0 to 5, a time of news -/
structure StpOk (s : Stp) : Prop where
  ev : s.ev ≤ 5
  lo : -500 ≤ s.tm
  hi : s.tm ≤ 500
abbrev s_is_event_time : Stmt := topS 38
theorem sc_is_event_time : FnScope ["event", "time"] ["event", "time"] (defScope s_is_event_time) := ⟨rfl, rfl, rfl, by decide +kernel, rfl, by decide +kernel, by decide +kernel⟩
def spEventTime : Sp := fun vs H Q _ => ∃ (e : Nat) (t : Int), vs = [.int e, .int t] ∧ e ≤ 5 ∧ -500 ≤ t ∧ t ≤ 500 ∧ Q (.bl true) H
theorem kn_is_event_time (gc : Gc mg) (k_is_integer : Kn P w K mg base 1 "is_integer" ["value"] spInteger) (D : Df K mg "is_event_time" "is_event_time" s_is_event_time) :
    Kn P w K mg base 2 "is_event_time" ["event", "time"] spEventTime := by
  refine kn_of D (fun _ _ _ _ _ _ us hl => match us, hl with | [_, _], _ => rfl) fun f fd F => F.ok sc_is_event_time (fun vs H Q E h => ?_) (fun cdv A outer s H vs Q E hr h => ?_)
  · obtain ⟨e, t, rfl, _⟩ := h
    rfl
  · obtain ⟨e, t, rfl, h1, h2, h3, q⟩ := h
    refine ⟨_, (pss_cons (ps_if (PW.pt (pw_or (pt_not (pt_val (pe_kn k_is_integer (hr.mono (by decide)) (by rfl) (pa_cons (pv 0) pa_nil)))) (pw_or1 (pt_not (pt_chain op_le op_le pe_int (pv 0) (pe_cst gc.MOST_EVENT (by rfl))))))) (pss_one (ps_ret pe_bl)) pss_nil)
      (pss_one (ps_ret (pe_and (pe_kn k_is_integer (hr.mono (by decide)) (by rfl) (pa_cons (pv 1) pa_nil)) (pe_one (pe_chain op_le op_le (pe_un un_neg (pe_cst gc.MOST_TIME (by rfl))) (pv 1) (pe_cst gc.MOST_TIME (by rfl)))))))), ?_⟩
    refine ⟨.int e, rfl, e, rfl, true, rfl, iteF ⟨.int e, rfl, 0, e, rfl, rfl, _, rfl, ?_⟩⟩
    rw [decide_eq_true (by omega)]
    refine ⟨e, 5, rfl, rfl, _, rfl, ?_⟩
    rw [decide_eq_true (by omega)]
    refine ⟨.int t, rfl, t, rfl, true, rfl, iteT ⟨500, rfl, .int t, rfl, -500, t, rfl, rfl, _, rfl, ?_⟩⟩
    rw [decide_eq_true (by omega)]
    refine ⟨t, 500, rfl, rfl, ?_⟩
    show Q (.bl (decide (t ≤ 500))) H
    rw [decide_eq_true h3]
    exact q
abbrev s_is_step : Stmt := topS 39
theorem sc_is_step : FnScope ["value"] ["value"] (defScope s_is_step) := ⟨rfl, rfl, rfl, by decide +kernel, rfl, by decide +kernel, by decide +kernel⟩
def spStep : Sp := fun vs H Q _ => ∃ (v : V) (s : Stp), vs = [v] ∧ StpAt H v s ∧ StpOk s ∧ ∀ H', Same H H' → Q (.bl true) H'
theorem kind_in (up : Bool) : inV (.str (kindS up)) [.str "raise", .str "lower"] = true := by
  cases up <;> decide +kernel
theorem kn_is_step (gb : Gb mg) (k_is_event_time : Kn P w K mg base 2 "is_event_time" ["event", "time"] spEventTime) (D : Df K mg "is_step" "is_step" s_is_step) : Kn P w K mg base 3 "is_step" ["value"] spStep := by
  refine kn_of D (fun _ _ _ _ _ _ us hl => match us, hl with | [_], _ => rfl) fun f fd F => F.ok sc_is_step (fun vs H Q E h => ?_) (fun cdv A outer s H vs Q E hr h => ?_)
  · obtain ⟨v, s, rfl, _⟩ := h
    rfl
  · obtain ⟨v, st, rfl, ⟨a, rfl, ha⟩, ok, q⟩ := h
    refine ⟨_, (pss_cons (ps_if (PW.pt (pw_or (pt_not (pt_val (pe_callB call_isi (by rfl) gb.isinstance b_isinstance (pa_cons (pv 0) (pa_cons (pe_btuple gb.tuple (by rfl)) pa_nil))))) (pw_or (pt_cmpR op_ne (pe_callB call_len_seq (by rfl) gb.len b_len (pa_cons (pv 0) pa_nil)) pe_int (nomark _)) (pw_or1 (pt_not (pt_val (pe_callB call_isi (by rfl) gb.isinstance b_isinstance (pa_cons (pe_ix (ixT (K := K)) (pv 0) pe_int (fun _ _ => rfl)) (pa_cons (pe_bstr gb.str (by rfl)) pa_nil))))))))) (pss_one (ps_ret pe_bl)) pss_nil)
      (pss_one (ps_ret (pe_and (pe_cmpR op_in_seq (pe_ix (ixT (K := K)) (pv 0) pe_int (fun _ _ => rfl)) (pe_tup (pa_cons pe_str (pa_cons pe_str pa_nil))) (by rfl)) (pe_one (pe_kn k_is_event_time (hr.mono (by decide)) (by rfl) (pa_cons (pe_ix (ixT (K := K)) (pv 0) pe_int (fun _ _ => rfl)) (pa_cons (pe_ix (ixT (K := K)) (pv 0) pe_int (fun _ _ => rfl)) pa_nil)))))))), ?_⟩
    refine ⟨.ref a, rfl, _, .ty "tuple", _, _, true, rfl, .ty _, .base (.tup ha), ki_tt, true, rfl, iteF ⟨.ref a, rfl, a, _, rfl, .inr (SqT.of ha), rfl, _, rfl, iteF ?_⟩⟩
    refine ⟨.ref a, rfl, a, _, 0, _, rfl, rfl, SqT.of ha, atI_nat (j := 0) rfl, _, .ty "str", _, _, true, rfl, .ty _, .base (.str _), ki_ss, true, rfl, iteF ?_⟩
    refine ⟨.ref a, rfl, a, _, 0, _, rfl, rfl, SqT.of ha, atI_nat (j := 0) rfl, by decide, fun p hp => ⟨p, _, rfl, .inr (SqT.of upd_same), rfl, rfl, _, rfl, ?_⟩⟩
    rw [kind_in]
    have e := same_new (o := .tup [.str "raise", .str "lower"]) hp
    refine iteT ⟨.ref a, rfl, a, _, 1, _, rfl, rfl, SqT.of (e _ _ ha), atI_nat (j := 1) rfl, .ref a, rfl, a, _, 2, _, rfl, rfl, SqT.of (e _ _ ha), atI_nat (j := 2) rfl, st.ev, st.tm, rfl, ok.ev, ok.lo, ok.hi, ?_⟩
    exact q _ e
abbrev s_are_steps : Stmt := topS 40
theorem sc_are_steps : FnScope ["value", "one"] ["value"] (defScope s_are_steps) := ⟨rfl, rfl, rfl, by decide +kernel, rfl, by decide +kernel, by decide +kernel⟩
def spSteps : Sp := fun vs H Q _ => ∃ (v : V) (ss : List Stp), vs = [v] ∧ StpsAt H v ss ∧ (∀ s ∈ ss, StpOk s) ∧ ss.length ≤ 16 ∧ ∀ H', Same H H' → Q (.bl true) H'
theorem kn_are_steps (gb : Gb mg) (gc : Gc mg) (k_is_step : Kn P w K mg base 3 "is_step" ["value"] spStep) (D : Df K mg "are_steps" "are_steps" s_are_steps) : Kn P w K mg base 4 "are_steps" ["value"] spSteps := by
  refine kn_of D (fun _ _ _ _ _ _ us hl => match us, hl with | [_], _ => rfl) fun f fd F => F.ok sc_are_steps (fun vs H Q E h => ?_) (fun cdv A outer s H vs Q E hr h => ?_)
  · obtain ⟨v, s, rfl, _⟩ := h
    rfl
  · obtain ⟨v, ss, rfl, ⟨a, us, rfl, ha, hp⟩, ok, hz, q⟩ := h
    refine ⟨_, (pss_one (ps_ret (pe_and (pe_callB call_isi (by rfl) gb.isinstance b_isinstance (pa_cons (pv 0) (pa_cons (pe_btuple gb.tuple (by rfl)) pa_nil))) (pe_and (pe_cmpR op_le (pe_callB call_len_seq (by rfl) gb.len b_len (pa_cons (pv 0) pa_nil)) (pe_cst gc.MOST_STEPS (by rfl)) (nomark _)) (pe_one (pe_callB (cr_all (by rfl)) (by rfl) gb.all b_all (pa_cons (pe_lc (own := [("one", 1)]) (by rfl) sc_are_steps.nd (pi_tup (pv 0)) (blkOk_by (own := [("one", 1)]) (N := ["value", "one"]) (sc := (defScope s_are_steps)) (by decide +kernel)) (fun _ _ _ _ _ => (pg_name (i := 1) sc_are_steps.nd rfl (by first | exact Or.inl rfl | exact Or.inr rfl))) (fun _ _ _ _ _ => pts_nil) (fun _ _ _ _ _ => (pe_kn k_is_step (hr.mono (by decide)) (by rfl) (pa_cons (pv 1) pa_nil)))) pa_nil))))))), ?_⟩
    have hl : us.length = ss.length := Paired.length hp
    refine ⟨.ref a, rfl, _, .ty "tuple", _, _, true, rfl, .ty _, .base (.tup ha), ki_tt, true, rfl, iteT ⟨.ref a, rfl, a, _, rfl, .inr (SqT.of ha), us.length, 16, rfl, rfl, _, rfl, ?_⟩⟩
    rw [decide_eq_true (by omega)]
    refine iteT ⟨.ref a, rfl, a, rfl, ⟨us, SqT.of ha⟩, fun D hD => lc_true hD (SqT.of ha) (by omega) (fun i x H' e hx Q' q' => ⟨rfl, ?_⟩) fun H' e hl => ?_⟩
    · obtain ⟨st, hr', hx'⟩ := paired_get hp hx
      exact ⟨x, rfl, x, st, rfl, hx'.mono (tk_of e), ok st (List.mem_of_getElem? hr'), q'⟩
    · refine ⟨D, List.replicate us.length true, rfl, SqL.of hl, ?_⟩
      rw [all_true]
      exact q _ e
abbrev s_check_steps : Stmt := topS 41
theorem sc_check_steps : FnScope ["steps"] ["steps"] (defScope s_check_steps) := ⟨rfl, rfl, rfl, by decide +kernel, rfl, by decide +kernel, by decide +kernel⟩
def spCheckSteps : Sp := fun vs H Q _ => ∃ (v : V) (ss : List Stp), vs = [v] ∧ StpsAt H v ss ∧ (∀ s ∈ ss, StpOk s) ∧ ss.length ≤ 16 ∧ ∀ H', Same H H' → Q .non H'
theorem kn_check_steps (k_are_steps : Kn P w K mg base 4 "are_steps" ["value"] spSteps) (D : Df K mg "check_steps" "check_steps" s_check_steps) : Kn P w K mg base 5 "check_steps" ["steps"] spCheckSteps := by
  refine kn_of D (fun _ _ _ _ _ _ us hl => match us, hl with | [_], _ => rfl) fun f fd F => F.ok sc_check_steps (fun vs H Q E h => ?_) (fun cdv A outer s H vs Q E hr h => ?_)
  · obtain ⟨v, s, rfl, _⟩ := h
    rfl
  · obtain ⟨v, ss, rfl, hs, ok, hz, q⟩ := h
    exact ⟨_, (pss_one (ps_if (pt_not (pt_val (pe_kn k_are_steps (hr.mono (by decide)) (by rfl) (pa_cons (pv 0) pa_nil)))) (pss_one ps_never) pss_nil)), v, rfl, v, ss, rfl, hs, ok, hz, fun H' e => ⟨true, rfl, iteF (q _ e)⟩⟩
/-! ### do_commute, commute -/
theorem kind_eq (a b : Bool) : decide (V.str (kindS a) = V.str (kindS b)) = decide (a = b) := by
  cases a <;> cases b <;> decide +kernel
theorem kind_raise (a : Bool) : decide (V.str (kindS a) = V.str "raise") = a := by
  cases a <;> decide +kernel
theorem int_dec (i j : Nat) : decide (V.int i = V.int j) = decide (i = j) := by
  by_cases e : i = j
  · rw [decide_eq_true e, decide_eq_true (by rw [e])]
  · rw [decide_eq_false e, decide_eq_false (fun z => e (by have := V.int.inj z; omega))]
abbrev s_do_commute : Stmt := topS 42
theorem sc_do_commute : FnScope ["one", "other", "first", "second"] ["one", "other"] (defScope s_do_commute) := ⟨rfl, rfl, rfl, by decide +kernel, rfl, by decide +kernel, by decide +kernel⟩
def spCommute : Sp := fun vs H Q _ => ∃ (v u : V) (a b : Stp), vs = [v, u] ∧ StpAt H v a ∧ StpAt H u b ∧ StpOk a ∧ StpOk b ∧ ∀ H', Same H H' → Q (.bl (commM a b)) H'
theorem kn_do_commute (D : Df K mg "do_commute" "do_commute" s_do_commute) : Kn P w K mg base 1 "do_commute" ["one", "other"] spCommute := by
  refine kn_of D (fun _ _ _ _ _ _ us hl => match us, hl with | [_, _], _ => rfl) fun f fd F => F.ok sc_do_commute (fun vs H Q E h => ?_) (fun cdv A outer s H vs Q E hr h => ?_)
  · obtain ⟨v, u, a, b, rfl, _⟩ := h
    rfl
  · obtain ⟨v, u, a, b, rfl, ⟨p, rfl, hp⟩, ⟨q, rfl, hq⟩, oka, okb, k⟩ := h
    refine ⟨_, (pss_cons (ps_if (pt_cmpR op_eq (pe_ix (ixT (K := K)) (pv 0) pe_int (fun _ _ => rfl)) (pe_ix (ixT (K := K)) (pv 1) pe_int (fun _ _ => rfl)) (nomark _)) (pss_one (ps_ret pe_bl)) pss_nil)
      (pss_cons (ps_asg (pe_ifExp (pt_cmpR op_eq (pe_ix (ixT (K := K)) (pv 0) pe_int (fun _ _ => rfl)) pe_str (nomark _)) (pe_tup (pa_cons (pv 0) (pa_cons (pv 1) pa_nil))) (pe_tup (pa_cons (pv 1) (pa_cons (pv 0) pa_nil)))) (pg_tupK (K := K) (n := 2) (by rfl) (pgs_cons (pg_name (i := 2) sc_do_commute.nd rfl (Or.inl rfl)) (pgs_cons (pg_name (i := 3) sc_do_commute.nd rfl (Or.inl rfl)) pgs_nil))))
      (pss_one (ps_ret (pe_and (pe_cmpR op_eq (pe_ix (ixT (K := K)) (pv 2) pe_int (fun _ _ => rfl)) (pe_ix (ixT (K := K)) (pv 3) pe_int (fun _ _ => rfl)) (nomark _)) (pe_one (pe_cmpR op_le (pe_ix (ixT (K := K)) (pv 2) pe_int (fun _ _ => rfl)) (pe_ix (ixT (K := K)) (pv 3) pe_int (fun _ _ => rfl)) (nomark _)))))))), ?_⟩
    refine ⟨.ref p, rfl, p, _, 0, _, rfl, rfl, SqT.of hp, atI_nat (j := 0) rfl, .ref q, rfl, q, _, 0, _, rfl, rfl, SqT.of hq, atI_nat (j := 0) rfl, rfl, _, rfl, ?_⟩
    rw [kind_eq]
    unfold commM at k
    by_cases hab : a.up = b.up
    · rw [if_pos hab] at k
      rw [decide_eq_true hab]
      exact k H (Same.refl _)
    · rw [if_neg hab] at k
      rw [decide_eq_false hab]
      refine ⟨.ref p, rfl, p, _, 0, _, rfl, rfl, SqT.of hp, atI_nat (j := 0) rfl, rfl, _, rfl, ?_⟩
      rw [kind_raise]
      cases ha : a.up with
      | true =>
        rw [ha, if_pos rfl] at k
        refine iteT ⟨.ref p, rfl, .ref q, rfl, (show 2 ≤ sizeLine by decide), fun z hz => ?_⟩
        have e := same_new (o := .tup [.ref p, .ref q]) hz
        have hp' := e _ _ hp
        have hq' := e _ _ hq
        refine ⟨z, _, rfl, SqT.of upd_same, rfl, _, _, rfl, _, _, rfl, rfl, ?_⟩
        refine ⟨.ref p, rfl, p, _, 1, _, rfl, rfl, SqT.of hp', atI_nat (j := 1) rfl, .ref q, rfl, q, _, 1, _, rfl, rfl, SqT.of hq', atI_nat (j := 1) rfl, rfl, _, rfl, ?_⟩
        rw [int_dec]
        have k := k _ e
        cases hev : decide (a.ev = b.ev) with
        | false =>
          rw [hev] at k
          exact k
        | true =>
          rw [hev] at k
          exact ⟨.ref p, rfl, p, _, 2, _, rfl, rfl, SqT.of hp', atI_nat (j := 2) rfl, .ref q, rfl, q, _, 2, _, rfl, rfl, SqT.of hq', atI_nat (j := 2) rfl, a.tm, b.tm, rfl, rfl, k⟩
      | false =>
        rw [ha, if_neg Bool.false_ne_true] at k
        refine iteF ⟨.ref q, rfl, .ref p, rfl, (show 2 ≤ sizeLine by decide), fun z hz => ?_⟩
        have e := same_new (o := .tup [.ref q, .ref p]) hz
        have hp' := e _ _ hp
        have hq' := e _ _ hq
        refine ⟨z, _, rfl, SqT.of upd_same, rfl, _, _, rfl, _, _, rfl, rfl, ?_⟩
        refine ⟨.ref q, rfl, q, _, 1, _, rfl, rfl, SqT.of hq', atI_nat (j := 1) rfl, .ref p, rfl, p, _, 1, _, rfl, rfl, SqT.of hp', atI_nat (j := 1) rfl, rfl, _, rfl, ?_⟩
        rw [int_dec]
        have k := k _ e
        cases hev : decide (b.ev = a.ev) with
        | false =>
          rw [hev] at k
          exact k
        | true =>
          rw [hev] at k
          exact ⟨.ref q, rfl, q, _, 2, _, rfl, rfl, SqT.of hq', atI_nat (j := 2) rfl, .ref p, rfl, p, _, 2, _, rfl, rfl, SqT.of hp', atI_nat (j := 2) rfl, b.tm, a.tm, rfl, rfl, k⟩
abbrev s_commute : Stmt := topS 43
theorem sc_commute : FnScope ["one", "other"] ["one", "other"] (defScope s_commute) := ⟨rfl, rfl, rfl, by decide +kernel, rfl, by decide +kernel, by decide +kernel⟩
theorem kn_commute (k_is_step : Kn P w K mg base 3 "is_step" ["value"] spStep) (k_do_commute : Kn P w K mg base 1 "do_commute" ["one", "other"] spCommute) (D : Df K mg "commute" "commute" s_commute) :
    Kn P w K mg base 4 "commute" ["one", "other"] spCommute := by
  refine kn_of D (fun _ _ _ _ _ _ us hl => match us, hl with | [_, _], _ => rfl) fun f fd F => F.ok sc_commute (fun vs H Q E h => ?_) (fun cdv A outer s H vs Q E hr h => ?_)
  · obtain ⟨v, u, a, b, rfl, _⟩ := h
    rfl
  · obtain ⟨v, u, a, b, rfl, hv, hu, oka, okb, k⟩ := h
    refine ⟨_, (pss_cons (ps_if (pt_not (pt_val (pe_kn k_is_step (hr.mono (by decide)) (by rfl) (pa_cons (pv 0) pa_nil)))) (pss_one ps_never) pss_nil)
      (pss_cons (ps_if (pt_not (pt_val (pe_kn k_is_step (hr.mono (by decide)) (by rfl) (pa_cons (pv 1) pa_nil)))) (pss_one ps_never) pss_nil)
      (pss_one (ps_ret (pe_kn k_do_commute (hr.mono (by decide)) (by rfl) (pa_cons (pv 0) (pa_cons (pv 1) pa_nil))))))), v, rfl, v, a, rfl, hv, oka, fun H1 e1 => ⟨true, rfl, iteF ?_⟩⟩
    refine ⟨u, rfl, u, b, rfl, hu.mono (tk_of e1), okb, fun H2 e2 => ⟨true, rfl, iteF ?_⟩⟩
    have e := e1.trans e2
    exact ⟨v, rfl, u, rfl, v, u, a, b, rfl, hv.mono (tk_of e), hu.mono (tk_of e), oka, okb, fun H3 e3 => k _ (e.trans e3)⟩
end
end AbW
namespace AbW
open PySem PySem.Spec PyProof.Rows L2 AbR AB
section
variable {P : Program} {w : World} {K : PySem.W.Frag} {mg : Str → Option Value} {base : Heap}
/-! ### edges_of -/
theorem Same.seqT {H H' : Hp} {a : Addr} {xs : List V} (e : Same H H') (h : SqT K H a xs) : SqT K H' a xs := by
  rcases h with (h | ⟨o, h⟩) | h
  · exact .inl (.inl (e _ _ h))
  · exact .inl (.inr ⟨o, e _ _ h⟩)
  · exact .inr h
theorem pairedSnoc {α β : Type} {F : α → β → Prop} {a : α} {b : β} (h : F a b) : ∀ {l : List α} {m : List β}, Paired F l m → Paired F (l ++ [a]) (m ++ [b])
  | _, _, .nil => .cons h .nil
  | _, _, .cons r t => .cons r (pairedSnoc h t)
theorem edges_take {rs : List Rule} {i : Nat} {r : Rule} (h : rs[i]? = some r) : edgesM (rs.take (i + 1)) = edgesM (rs.take i) ++ edgesOf r := by
  unfold edgesM
  rw [List.take_add_one, h, List.flatMap_append]
  show _ ++ (edgesOf r ++ []) = _
  rw [List.append_nil]
theorem edges_take_len (rs : List Rule) (i : Nat) (h : rs.length ≤ 12) : (edgesM (rs.take i)).length ≤ 24 := by
  have h1 := edges_len (rs.take i)
  rw [List.length_take] at h1
  omega
abbrev s_edges_of : Stmt := topS 20
theorem sc_edges_of : FnScope ["net", "found", "at", "rule", "start", "end", "low", "high"] ["net"] (defScope s_edges_of) := ⟨rfl, rfl, rfl, by decide +kernel, rfl, by decide +kernel, by decide +kernel⟩
def spEdges : Sp := fun vs H Q _ => ∃ (v : V) (n : Nat) (rs : List Rule), vs = [v] ∧ NetAt H v n rs ∧ rs.length ≤ 12 ∧ ∀ H' v', Same H H' → EdgesAt H' v' (edgesM rs) → Q v' H'
/-- the list at o holds the edges E -/
def EdL (H : Hp) (o : Addr) (E : List Edge) : Prop := ∃ us, H o = some (.lst us) ∧ Paired (EdgeAt H) us E
theorem EdL.app {H H' : Hp} {o p : Addr} {E : List Edge} {s e : Nat} {wt : Int} {x : V} {us : List V} (he : Same H H') (ho : H o = some (.lst us)) (hE : Paired (EdgeAt H) us E) (hp : H' p = some (.tup [x, .int s, .int e, .int wt])) :
    EdL (upd H' o (.lst (us ++ [.ref p]))) o (E ++ [(s, e, wt)]) := by
  have t : Tk H (upd H' o (.lst (us ++ [.ref p]))) := fun a xs h => by
    rw [upd_ne (ne_of h ho fun z => nomatch z)]
    exact he _ _ h
  refine ⟨_, upd_same, pairedSnoc ⟨p, x, rfl, ?_⟩ (pairedMono (fun _ _ z => EdgeAt.mono t z) hE)⟩
  rw [upd_ne (ne_of hp (he _ _ ho) fun z => nomatch z)]
  exact hp
theorem kn_edges_of (gb : Gb mg) (D : Df K mg "edges_of" "edges_of" s_edges_of) : Kn P w K mg base 1 "edges_of" ["net"] spEdges := by
  refine kn_of D (fun _ _ _ _ _ _ us hl => match us, hl with | [_], _ => rfl) fun f fd F => F.ok sc_edges_of (fun vs H Q E h => ?_) (fun cdv A outer s H vs Q E hr h => ?_)
  · obtain ⟨v, n, rs, rfl, _⟩ := h
    rfl
  · obtain ⟨v, n, rs, rfl, ⟨a, b, us, rfl, ha, hb, hp⟩, hz, k⟩ := h
    refine ⟨_, (pss_cons (ps_set (i := 1) sc_edges_of.nd rfl (Or.inl rfl) (pe_lst pa_nil))
      (pss_cons (ps_for PassesOwn.never rfl (pi_enumT (by rfl) gb.enumerate (pa_cons (pe_ix (ixT (K := K)) (pv 0) pe_int (fun _ _ => rfl)) pa_nil)) (pg_tupK (K := K) (n := 2) (by rfl) (pgs_cons (pg_name (i := 2) sc_edges_of.nd rfl (Or.inl rfl)) (pgs_cons (pg_name (i := 3) sc_edges_of.nd rfl (Or.inl rfl)) pgs_nil))) (pss_cons (ps_asg (pv 3) (pg_tupK (K := K) (n := 4) (by rfl) (pgs_cons (pg_name (i := 4) sc_edges_of.nd rfl (Or.inl rfl)) (pgs_cons (pg_name (i := 5) sc_edges_of.nd rfl (Or.inl rfl)) (pgs_cons (pg_name (i := 6) sc_edges_of.nd rfl (Or.inl rfl)) (pgs_cons (pg_name (i := 7) sc_edges_of.nd rfl (Or.inl rfl)) pgs_nil))))))
      (pss_cons (ps_if (pt_cmpR op_notN (pv 7) pe_non (nomark _)) (pss_one (ps_expr (pe_bm PySem.F.plainAttrs_list PySem.F.slot_list_append PySem.F.type_list_append mt_append (pv 1) (pa_cons (pe_tup (pa_cons (pe_tup (pa_cons (pv 2) (pa_cons pe_str pa_nil))) (pa_cons (pv 4) (pa_cons (pv 5) (pa_cons (pv 7) pa_nil))))) pa_nil)))) pss_nil)
      (pss_one (ps_if (pt_cmpR op_notN (pv 6) pe_non (nomark _)) (pss_one (ps_expr (pe_bm PySem.F.plainAttrs_list PySem.F.slot_list_append PySem.F.type_list_append mt_append (pv 1) (pa_cons (pe_tup (pa_cons (pe_tup (pa_cons (pv 2) (pa_cons pe_str pa_nil))) (pa_cons (pv 5) (pa_cons (pv 4) (pa_cons (pe_op op_sub pe_int (pv 6)) pa_nil))))) pa_nil)))) pss_nil)))))
      (pss_one (ps_ret (pv 1))))), ?_⟩
    have hlen : us.length = rs.length := Paired.length hp
    refine ⟨Nat.zero_le _, fun o ho => ?_⟩
    have e0 := same_new (o := .lst []) ho
    refine ⟨.ref a, rfl, a, _, 1, _, rfl, rfl, SqT.of (e0 _ _ ha), atI_nat (j := 1) rfl, b, us, rfl, SqT.of (e0 _ _ hb), ?_⟩
    refine for_it walk_enumT (fun i σ H1 => ∃ y2 y3 y4 y5 y6 y7, σ = [some (.ref a), some (.ref o), y2, y3, y4, y5, y6, y7] ∧ Same H H1 ∧ EdL H1 o (edgesM (rs.take i)))
      ⟨_, _, _, _, _, _, rfl, e0, [], upd_same, .nil⟩ (fun i σ H1 _ p => ?_) (fun i x σ H1 H2 hi p hx => ?_) (fun σ H1 p => ?_)
    · obtain ⟨_, _, _, _, _, _, _, e, _⟩ := p
      exact SqT.of (e _ _ hb)
    · obtain ⟨y2, y3, y4, y5, y6, y7, rfl, e1, es, hes, hE⟩ := p
      obtain ⟨T, z1, z2, rfl, hT, rfl, f1, f2⟩ := hx
      cases f1
      obtain ⟨r, hr', hx'⟩ := paired_get hp f2
      obtain ⟨ra, rfl, hra⟩ := hx'.mono (tk_of e1)
      have eT := same_new (o := .tup [.int (i : Nat), .ref ra]) hT
      have hez : es.length = (edgesM (rs.take i)).length := Paired.length hE
      have hsm := edges_take_len rs i hz
      have htk := edges_take hr'
      -- at, rule = the pair; start, end, low, high = rule
      refine ⟨T, _, rfl, SqT.of upd_same, rfl, _, _, rfl, _, _, rfl, rfl, ?_⟩
      refine ⟨.ref ra, rfl, ra, _, rfl, SqT.of (eT _ _ hra), rfl, _, _, rfl, _, _, rfl, _, _, rfl, _, _, rfl, rfl, ?_⟩
      generalize hU : upd H1 T (.tup [.int (i : Nat), .ref ra]) = H2 at eT
      have e2 : Same H H2 := e1.trans eT
      have hes2 : H2 o = some (.lst es) := eT _ _ hes
      have hE2 : Paired (EdgeAt H2) es (edgesM (rs.take i)) := pairedMono (fun _ _ z => EdgeAt.mono (tk_of eT) z) hE
      -- the low part, from a heap whose list holds what the high part has left
      have low : ∀ (H3 : Hp) (es3 : List V), Same H H3 → H3 o = some (.lst es3) → es3.length ≤ 30 → Paired (EdgeAt H3) es3 (edgesM (rs.take i) ++ (match r.hi with | some h => [(r.s, r.e, h)] | none => [])) →
          tIfS (tTest (tOp (fun x y H Q => y = .non ∧ Q (.bl (!decide (x = .non))) H) (tVar 6) (tC .non))) (tDrop (tBM K "list" rAppend (tVar 1) (tCons (tTup (tCons (tTup (tCons (tVar 2) (tCons (tC (.str "low")) tNil))) (tCons (tVar 5) (tCons (tVar 4) (tCons (tOp (rI0 fun i j => .int (i - j)) (tC (.int 0)) (tVar 6)) tNil))))) tNil))) tNext
            { nx := fun σ H1 => ∃ y2 y3 y4 y5 y6 y7, σ = [some (.ref a), some (.ref o), y2, y3, y4, y5, y6, y7] ∧ Same H H1 ∧ EdL H1 o (edgesM (rs.take (i + 1))), rt := Q }
            [some (.ref a), some (.ref o), some (.int (i : Nat)), some (.ref ra), some (.int r.s), some (.int r.e), some (optV r.lo), some (optV r.hi)] H3 := fun H3 es3 e3 h3 hz3 hE3 => by
        refine ⟨optV r.lo, rfl, rfl, _, rfl, ?_⟩
        rw [opt_dec]
        cases hlo : r.lo with
        | none =>
          refine iteF ⟨_, _, _, _, _, _, rfl, e3, es3, h3, ?_⟩
          rw [htk]
          unfold edgesOf
          rw [hlo]
          cases hh : r.hi <;> (rw [hh] at hE3; simpa using hE3)
        | some l =>
          refine iteT ⟨.ref o, rfl, .inl ⟨rfl, _, SqL.of h3⟩, .int i, rfl, (show 2 ≤ sizeLine by decide), fun q hq => ?_⟩
          have eq1 := same_new (o := .tup [.int (i : Nat), .str "low"]) hq
          refine ⟨.int r.e, rfl, .int r.s, rfl, .int l, rfl, 0, l, rfl, rfl, (show 4 ≤ sizeLine by decide), fun q2 hq2 => ?_⟩
          have eq2 := same_new (o := .tup [.ref q, .int r.e, .int r.s, .int (0 - l)]) hq2
          have e32 := eq1.trans eq2
          refine ⟨o, es3, .ref q2, rfl, rfl, e32 _ _ h3, small5 (by omega), _, _, _, _, _, _, rfl, ?_, ?_⟩
          · exact same_mut (e3.trans e32) ho
          · have g := EdL.app (s := r.e) (e := r.s) (wt := 0 - l) e32 h3 hE3 upd_same
            rw [htk]
            unfold edgesOf
            rw [hlo]
            rw [List.append_assoc] at g
            exact g
      refine ⟨optV r.hi, rfl, rfl, _, rfl, ?_⟩
      rw [opt_dec]
      cases hhi : r.hi with
      | none =>
        refine iteF ?_
        have g := low H2 es e2 hes2 (by omega) (by rw [hhi]; simpa using hE2)
        rw [hhi] at g
        exact g
      | some h =>
        refine iteT ⟨.ref o, rfl, .inl ⟨rfl, _, SqL.of hes2⟩, .int i, rfl, (show 2 ≤ sizeLine by decide), fun q hq => ?_⟩
        have eq1 := same_new (o := .tup [.int (i : Nat), .str "high"]) hq
        refine ⟨.int r.s, rfl, .int r.e, rfl, .int h, rfl, (show 4 ≤ sizeLine by decide), fun q2 hq2 => ?_⟩
        have eq2 := same_new (o := .tup [.ref q, .int r.s, .int r.e, .int h]) hq2
        have e32 := eq1.trans eq2
        refine ⟨o, es, .ref q2, rfl, rfl, e32 _ _ hes2, small5 (by omega), ?_⟩
        obtain ⟨es3, h3, hE3⟩ := EdL.app (s := r.s) (e := r.e) (wt := h) e32 hes2 hE2 upd_same
        have hl3 : es3.length = (edgesM (rs.take i) ++ [(r.s, r.e, h)]).length := Paired.length hE3
        rw [List.length_append, List.length_singleton] at hl3
        have g := low _ es3 (same_mut (e2.trans e32) ho) h3 (by omega) (by rw [hhi]; exact hE3)
        rw [hhi] at g
        exact g
    · obtain ⟨y2, y3, y4, y5, y6, y7, rfl, e1, es, hes, hE⟩ := p
      rw [hlen, List.take_length] at hE
      exact ⟨.ref o, rfl, k _ _ e1 ⟨o, es, rfl, hes, hE⟩⟩
end
end AbW
namespace AbW
open PySem PySem.Spec PyProof.Rows L2 AbR AB
section
variable {P : Program} {w : World} {K : PySem.W.Frag} {mg : Str → Option Value} {base : Heap}
/-! ### step_moved -/
/-- a table of n rows of n items -/
structure Square (n : Nat) (B : List (List (Option Int))) : Prop where
  rows : B.length = n
  cols : ∀ r ∈ B, r.length = n
theorem TableAt.item {H : Hp} {v : V} {n : Nat} {B : List (List (Option Int))} (h : TableAt H v B) (sq : Square n B) {i j : Nat} (hi : i < n) (hj : j < n) :
    ∃ (a r : Addr) (us rs : List V), v = .ref a ∧ H a = some (.lst us) ∧ atI us (i : Int) = some (.ref r) ∧ H r = some (.lst rs) ∧ atI rs (j : Int) = some (optV (bd B i j)) := by
  obtain ⟨a, us, rfl, ha, hp⟩ := h
  have hi' : i < B.length := by rw [sq.rows]; exact hi
  obtain ⟨x, hx, r, rfl, hr⟩ := paired_at hp (List.getElem?_eq_getElem hi')
  have hj' : j < (B[i]).length := by rw [sq.cols _ (List.getElem_mem hi')]; exact hj
  refine ⟨a, r, us, _, rfl, ha, atI_nat hx, hr, atI_nat ?_⟩
  unfold bd
  rw [List.getElem?_map, List.getElem?_eq_getElem hi', List.getElem?_eq_getElem hj']
  show some (optV _) = some (optV ((((some B[i]).getD [])[j]?).getD none))
  rw [Option.getD_some, List.getElem?_eq_getElem hj']
  rfl
theorem kind_lower (a : Bool) : decide (V.str (kindS a) = V.str "lower") = !a := by
  cases a <;> decide +kernel
theorem step_get {B : List (List (Option Int))} {t : List Int} {s : Stp} {i : Nat} (h : i < t.length) : (stepM B t s)[i]? = some (moveM B s i (tt t i)) := by
  unfold stepM
  rw [List.getElem?_map, List.getElem?_range h]
  rfl
abbrev s_step_moved : Stmt := topS 44
theorem sc_step_moved : FnScope ["bounds", "times", "step", "kind", "other", "time", "found", "event", "height"] ["bounds", "times", "step"] (defScope s_step_moved) := ⟨rfl, rfl, rfl, by decide +kernel, rfl, by decide +kernel, by decide +kernel⟩
def spMoved : Sp := fun vs H Q _ => ∃ (bv tv sv : V) (B : List (List (Option Int))) (t : List Int) (s : Stp), vs = [bv, tv, sv] ∧ TableAt H bv B ∧ IntsAt H tv t ∧ StpAt H sv s ∧ Square t.length B ∧ s.ev < t.length ∧ t.length ≤ 6 ∧
  ∀ H' v', Same H H' → IntsAt H' v' (stepM B t s) → Q v' H'
theorem kn_step_moved (gb : Gb mg) (D : Df K mg "step_moved" "step_moved" s_step_moved) : Kn P w K mg base 1 "step_moved" ["bounds", "times", "step"] spMoved := by
  refine kn_of D (fun _ _ _ _ _ _ us hl => match us, hl with | [_, _, _], _ => rfl) fun f fd F => F.ok sc_step_moved (fun vs H Q E h => ?_) (fun cdv A outer s H vs Q E hr h => ?_)
  · obtain ⟨bv, tv, sv, B, t, st, rfl, _⟩ := h
    rfl
  · obtain ⟨bv, tv, sv, B, t, st, rfl, hB, ⟨a, rfl, ha⟩, ⟨b, rfl, hb⟩, sq, hev, hn, k⟩ := h
    refine ⟨_, (pss_cons (ps_asg (pv 2) (pg_tupK (K := K) (n := 3) (by rfl) (pgs_cons (pg_name (i := 3) sc_step_moved.nd rfl (Or.inl rfl)) (pgs_cons (pg_name (i := 4) sc_step_moved.nd rfl (Or.inl rfl)) (pgs_cons (pg_name (i := 5) sc_step_moved.nd rfl (Or.inl rfl)) pgs_nil)))))
      (pss_cons (ps_set (i := 6) sc_step_moved.nd rfl (Or.inl rfl) (pe_lst pa_nil))
      (pss_cons (ps_for PassesOwn.never rfl (pi_enumT (by rfl) gb.enumerate (pa_cons (pv 1) pa_nil)) (pg_tupK (K := K) (n := 2) (by rfl) (pgs_cons (pg_name (i := 7) sc_step_moved.nd rfl (Or.inl rfl)) (pgs_cons (pg_name (i := 8) sc_step_moved.nd rfl (Or.inl rfl)) pgs_nil))) (pss_cons (ps_if (PW.pt (pw_and (pt_cmpR op_eq (pv 3) pe_str (nomark _)) (pw_and1 (pt_cmpR op_notN (pe_ix (ixL (K := K)) (pe_ix (ixL (K := K)) (pv 0) (pv 7) (fun _ _ => rfl)) (pv 4) (fun _ _ => rfl)) pe_non (nomark _))))) (pss_one (ps_set (i := 8) sc_step_moved.nd rfl (Or.inl rfl) (pe_callB (call_max2 (by rfl)) (by rfl) gb.max b_max (pa_cons (pv 8) (pa_cons (pe_op op_sub (pv 5) (pe_ix (ixL (K := K)) (pe_ix (ixL (K := K)) (pv 0) (pv 7) (fun _ _ => rfl)) (pv 4) (fun _ _ => rfl))) pa_nil))))) pss_nil)
      (pss_cons (ps_if (PW.pt (pw_and (pt_cmpR op_eq (pv 3) pe_str (nomark _)) (pw_and1 (pt_cmpR op_notN (pe_ix (ixL (K := K)) (pe_ix (ixL (K := K)) (pv 0) (pv 4) (fun _ _ => rfl)) (pv 7) (fun _ _ => rfl)) pe_non (nomark _))))) (pss_one (ps_set (i := 8) sc_step_moved.nd rfl (Or.inl rfl) (pe_callB (call_min2 (by rfl)) (by rfl) gb.min b_min (pa_cons (pv 8) (pa_cons (pe_op op_add (pv 5) (pe_ix (ixL (K := K)) (pe_ix (ixL (K := K)) (pv 0) (pv 4) (fun _ _ => rfl)) (pv 7) (fun _ _ => rfl))) pa_nil))))) pss_nil)
      (pss_one (ps_expr (pe_bm PySem.F.plainAttrs_list PySem.F.slot_list_append PySem.F.type_list_append mt_append (pv 6) (pa_cons (pv 8) pa_nil)))))))
      (pss_one (ps_ret (pe_callTy call_tuple_of (by rfl) gb.tuple b_tuple (pa_cons (pv 6) pa_nil))))))), ?_⟩
    -- kind, other, time = step; found = []
    refine ⟨.ref b, rfl, b, _, rfl, SqT.of hb, rfl, _, _, rfl, _, _, rfl, _, _, rfl, rfl, Nat.zero_le _, fun o ho => ?_⟩
    have e0 := same_new (o := .lst []) ho
    refine ⟨.ref a, rfl, a, t.map V.int, rfl, SqT.of (e0 _ _ ha), ?_⟩
    refine for_it walk_enumT (fun i σ H1 => ∃ y7 y8, σ = [some bv, some (.ref a), some (.ref b), some (.str (kindS st.up)), some (.int st.ev), some (.int st.tm), some (.ref o), y7, y8] ∧ Same H H1 ∧ H1 o = some (.lst (((stepM B t st).take i).map V.int)))
      ⟨_, _, rfl, e0, upd_same⟩ (fun i σ H1 _ p => ?_) (fun i x σ H1 H2 hi p hx => ?_) (fun σ H1 p => ?_)
    · obtain ⟨_, _, _, e, _⟩ := p
      exact SqT.of (e _ _ ha)
    · obtain ⟨y7, y8, rfl, e1, ho1⟩ := p
      obtain ⟨T, z1, z2, rfl, hT, rfl, f1, f2⟩ := hx
      cases f1
      rw [List.length_map] at hi
      have f3 : z2 = .int (tt t i) := by
        have f2 : (t.map V.int)[i]? = some z2 := f2
        rw [List.getElem?_map, List.getElem?_eq_getElem hi] at f2
        have f2 : some (V.int t[i]) = some z2 := f2
        cases f2
        show V.int t[i] = V.int (t.getD i 0)
        rw [List.getD_eq_getElem?_getD, List.getElem?_eq_getElem hi]
        rfl
      subst f3
      have eT := same_new (o := .tup [.int (i : Nat), .int (tt t i)]) hT
      refine ⟨T, _, rfl, SqT.of upd_same, rfl, _, _, rfl, _, _, rfl, rfl, ?_⟩
      generalize hU : upd H1 T (.tup [.int (i : Nat), .int (tt t i)]) = H2 at eT
      have e2 : Same H H2 := e1.trans eT
      have ho2 := eT _ _ ho1
      have app : ∀ h : Int, h = moveM B st i (tt t i) → tDrop (tBM K "list" rAppend (tVar 6) (tCons (tVar 8) tNil))
          { nx := fun σ H1 => ∃ y7 y8, σ = [some bv, some (.ref a), some (.ref b), some (.str (kindS st.up)), some (.int st.ev), some (.int st.tm), some (.ref o), y7, y8] ∧ Same H H1 ∧ H1 o = some (.lst (((stepM B t st).take (i + 1)).map V.int)), rt := Q }
          [some bv, some (.ref a), some (.ref b), some (.str (kindS st.up)), some (.int st.ev), some (.int st.tm), some (.ref o), some (.int (i : Nat)), some (.int h)] H2 := fun h eh => by
        refine ⟨.ref o, rfl, .inl ⟨rfl, _, SqL.of ho2⟩, .int h, rfl, o, _, .int h, rfl, rfl, ho2, small5 ?_, _, _, rfl, same_mut e2 ho, ?_⟩
        · rw [List.length_map, List.length_take, step_len]
          omega
        · rw [upd_same, List.take_add_one, step_get hi, List.map_append, ← eh]
          rfl
      have hB2 := hB.mono e2
      refine ⟨.str (kindS st.up), rfl, rfl, _, rfl, ?_⟩
      rw [kind_raise]
      cases hup : st.up with
      | true =>
        obtain ⟨ba, ra, us, rr, rfl, h1, h2, h3, h4⟩ := hB2.item sq hi hev
        refine iteT ⟨.ref ba, rfl, .int i, rfl, ba, us, _, _, rfl, rfl, SqL.of h1, h2, .int st.ev, rfl, ra, rr, _, _, rfl, rfl, SqL.of h3, h4, rfl, _, rfl, ?_⟩
        rw [opt_dec]
        have mv : moveM B st i (tt t i) = raised (tt t i) st.tm (bd B i st.ev) := if_pos hup
        have low : ∀ h : Int, h = moveM B st i (tt t i) → (decide (V.str (kindS true) = V.str "lower")) = false := fun _ _ => kind_lower true
        rw [hup] at app
        cases hbd : bd B i st.ev with
        | none =>
          refine iteF ⟨.str (kindS true), rfl, rfl, _, rfl, ?_⟩
          rw [kind_lower]
          refine iteF ?_
          exact app _ (by rw [mv, hbd]; rfl)
        | some d =>
          rw [hbd] at h4
          refine iteT ⟨.int (tt t i), rfl, .int st.tm, rfl, .ref ba, rfl, .int i, rfl, ba, us, _, _, rfl, rfl, SqL.of h1, h2, .int st.ev, rfl, ra, rr, _, _, rfl, rfl, SqL.of h3, h4, st.tm, d, rfl, rfl, _, _, rfl, ?_⟩
          refine ⟨.str (kindS true), rfl, rfl, _, rfl, ?_⟩
          rw [kind_lower]
          refine iteF ?_
          exact app _ (by rw [mv, hbd]; rfl)
      | false =>
        obtain ⟨ba, ra, us, rr, rfl, h1, h2, h3, h4⟩ := hB2.item sq hev hi
        refine iteF ⟨.str (kindS false), rfl, rfl, _, rfl, ?_⟩
        rw [kind_lower]
        refine iteT ⟨.ref ba, rfl, .int st.ev, rfl, ba, us, _, _, rfl, rfl, SqL.of h1, h2, .int i, rfl, ra, rr, _, _, rfl, rfl, SqL.of h3, h4, rfl, _, rfl, ?_⟩
        rw [opt_dec]
        have mv : moveM B st i (tt t i) = lowered (tt t i) st.tm (bd B st.ev i) := if_neg (by rw [hup]; decide)
        rw [hup] at app
        cases hbd : bd B st.ev i with
        | none => exact iteF (app _ (by rw [mv, hbd]; rfl))
        | some d =>
          rw [hbd] at h4
          refine iteT ⟨.int (tt t i), rfl, .int st.tm, rfl, .ref ba, rfl, .int st.ev, rfl, ba, us, _, _, rfl, rfl, SqL.of h1, h2, .int i, rfl, ra, rr, _, _, rfl, rfl, SqL.of h3, h4, st.tm, d, rfl, rfl, _, _, rfl, ?_⟩
          exact app _ (by rw [mv, hbd]; rfl)
    · obtain ⟨y7, y8, rfl, e1, ho1⟩ := p
      rw [List.length_map, show (stepM B t st).take t.length = stepM B t st from List.take_of_length_le (by rw [step_len]; exact Nat.le_refl _)] at ho1
      exact ⟨.ref o, rfl, o, _, rfl, .inl ⟨SqL.of ho1, fun p hp => k _ _ (e1.trans (same_new hp)) ⟨p, rfl, upd_same⟩⟩⟩
end
end AbW
namespace AbW
open PySem PySem.Spec PyProof.Rows L2 AbR AB
section
variable {P : Program} {w : World} {K : PySem.W.Frag} {mg : Str → Option Value} {base : Heap}
/-! ### all but the object at d stays -/
def SameX (d : Addr) (H H' : Hp) : Prop := ∀ b o, b ≠ d → H b = some o → H' b = some o
theorem SameX.trans {d : Addr} {H H1 H2 : Hp} (a : SameX d H H1) (b : Same H1 H2) : SameX d H H2 := fun c o h e => b c o (a c o h e)
theorem SameX.tk {d : Addr} {H H' : Hp} (a : SameX d H H') {kvs : List (List Key × V)} (h : H d = some (.dT kvs)) : Tk H H' := fun c xs e => a c _ (ne_of e h fun z => nomatch z) e
theorem sameX_upd {d : Addr} {H : Hp} {o : HO} : SameX d H (upd H d o) := fun b x h e => by
  rw [upd_ne h]
  exact e
theorem SameX.mut {d p : Addr} {H H' : Hp} {o : HO} (e : SameX d H H') (h : H p = none) : SameX d H (upd H' p o) := fun a u ne ha => by
  rw [upd_ne (ne_of_none ha h)]
  exact e a u ne ha
/-- unlocked again -/
theorem SameX.back {d : Addr} {H H' : Hp} {o : HO} (e : SameX d H H') (h : H d = some o) : Same H (upd H' d o) := fun b x hb => by
  by_cases c : b = d
  · subst c
    rw [h] at hb
    cases hb
    exact upd_same
  · rw [upd_ne c]
    exact e b x c hb
/-- reading a locked dict, a free one -/
theorem get_frz {H : Hp} {d p : Addr} {od : Obj} {kvs : List (List Key × V)} {k : WK} (hd : H d = some (.frz od (.dT kvs))) (hp : H p = some (.tup [.int k.1, .int k.2])) : DGet H d (.ref p) (valV kvs (keyM k)) :=
  .inr ⟨kvs, keyM k, p, .inr ⟨od, hd⟩, rfl, hp, rfl⟩
theorem get_dT {H : Hp} {d p : Addr} {kvs : List (List Key × V)} {k : WK} (hd : H d = some (.dT kvs)) (hp : H p = some (.tup [.int k.1, .int k.2])) : DGet H d (.ref p) (valV kvs (keyM k)) :=
  .inr ⟨kvs, keyM k, p, .inl hd, rfl, hp, rfl⟩
theorem KvOk.here {H : Hp} {c : Nat} {kvs : List (List Key × V)} {D : WD} (h : KvOk H c kvs D) {q : WK × Int} (hq : q ∈ D) : ∃ v, valV kvs (keyM q.1) = some v ∧ WalkAt H c v (val D q.1) := by
  obtain ⟨u, hu⟩ := mem_look (k := q.1) (v := q.2) hq
  rcases h.look q.1 with ⟨_, z⟩ | ⟨v, L, h1, h2, h3⟩
  · rw [z] at hu
    cases hu
  · refine ⟨v, h1, ?_⟩
    unfold val
    rw [h2]
    exact h3
theorem foldl_take {α β : Type} {f : β → α → β} {l : List α} {b : β} {i : Nat} {a : α} (h : l[i]? = some a) : (l.take (i + 1)).foldl f b = f ((l.take i).foldl f b) a := by
  rw [List.take_add_one, h, List.foldl_append]
  rfl
theorem take_len {α : Type} {f : WD → α → WD} {m : Nat} (hs : ∀ b a, (f b a).length ≤ b.length + m) (l : List α) (b : WD) (i : Nat) : ((l.take i).foldl f b).length ≤ b.length + l.length * m := by
  have h := foldl_len hs (l.take i) b
  have h2 : (l.take i).length * m ≤ l.length * m := Nat.mul_le_mul_right m (by rw [List.length_take]; exact Nat.min_le_right _ _)
  omega
/-! ### longer_walks -/
abbrev s_longer_walks : Stmt := topS 25
theorem sc_longer_walks : FnScope ["net", "walks", "found", "start", "here", "length", "walk", "edge", "near", "far", "weight"] ["net", "walks"] (defScope s_longer_walks) := ⟨rfl, rfl, rfl, by decide +kernel, rfl, by decide +kernel, by decide +kernel⟩
def spLonger : Sp := fun vs H Q _ => ∃ (nv : V) (d : Addr) (n : Nat) (rs : List Rule) (kvs : List (List Key × V)) (D : WD) (c : Nat), vs = [nv, .ref d] ∧ NetAt H nv n rs ∧ rs.length ≤ 12 ∧ H d = some (.dT kvs) ∧ KvOk H c kvs D ∧ c ≤ 1000 ∧
  D.length * (edgesM rs).length ≤ 900000 ∧ ∀ H' d' kvs', Same H H' → H d' = none → H' d' = some (.dT kvs') → KvOk H' (c + 1) kvs' (longer (edgesM rs) D) → Q (.ref d') H'
theorem relax_no {i here : Nat} {L : Int} {acc : WD} {e : Edge} (h : ¬ (e.1 = here ∧ better (look acc (i, e.2.1)) (L + e.2.2) = true)) : relax i here L acc e = acc := if_neg h
theorem relax_yes {i here : Nat} {L : Int} {acc : WD} {e : Edge} (h : e.1 = here ∧ better (look acc (i, e.2.1)) (L + e.2.2) = true) : relax i here L acc e = put acc (i, e.2.1) (L + e.2.2) := if_pos h
theorem kn_longer_walks (k_edges_of : Kn P w K mg base 1 "edges_of" ["net"] spEdges) (D : Df K mg "longer_walks" "longer_walks" s_longer_walks) : Kn P w K mg base 2 "longer_walks" ["net", "walks"] spLonger := by
  refine kn_of D (fun _ _ _ _ _ _ us hl => match us, hl with | [_, _], _ => rfl) fun f fd F => F.ok sc_longer_walks (fun vs H Q E h => ?_) (fun cdv A outer s H vs Q E hr h => ?_)
  · obtain ⟨nv, d, n, rs, kvs, D, c, rfl, _⟩ := h
    rfl
  · obtain ⟨nv, d, n, rs, kvs, D, c, rfl, hn, hz, hd, hkv, hc, hsz, k⟩ := h
    refine ⟨_, (pss_cons (ps_set (i := 2) sc_longer_walks.nd rfl (Or.inl rfl) pe_dnewT)
      (pss_cons (ps_lock (ps_for PassesOwn.never rfl (pi_keys (pv 1)) (pg_tupK (K := K) (n := 2) (by rfl) (pgs_cons (pg_name (i := 3) sc_longer_walks.nd rfl (Or.inl rfl)) (pgs_cons (pg_name (i := 4) sc_longer_walks.nd rfl (Or.inl rfl)) pgs_nil))) (pss_cons (ps_asg (pe_dget (hu_of hr) (pv 1) (pe_tup (pa_cons (pv 3) (pa_cons (pv 4) pa_nil))) (fun _ _ => rfl)) (pg_tupK (K := K) (n := 2) (by rfl) (pgs_cons (pg_name (i := 5) sc_longer_walks.nd rfl (Or.inl rfl)) (pgs_cons (pg_name (i := 6) sc_longer_walks.nd rfl (Or.inl rfl)) pgs_nil))))
      (pss_one (ps_for PassesOwn.never rfl (pi_list (pe_kn k_edges_of (hr.mono (by decide)) (by rfl) (pa_cons (pv 0) pa_nil))) (pg_tupK (K := K) (n := 4) (by rfl) (pgs_cons (pg_name (i := 7) sc_longer_walks.nd rfl (Or.inl rfl)) (pgs_cons (pg_name (i := 8) sc_longer_walks.nd rfl (Or.inl rfl)) (pgs_cons (pg_name (i := 9) sc_longer_walks.nd rfl (Or.inl rfl)) (pgs_cons (pg_name (i := 10) sc_longer_walks.nd rfl (Or.inl rfl)) pgs_nil))))) (pss_one (ps_if (PW.pt (pw_and (pt_cmpR op_eq (pv 8) (pv 4) (nomark _)) (pw_and1 (PW.pt (pw_or (pt_cmp (pc_dnotin (hu_of hr) (pe_tup (pa_cons (pv 3) (pa_cons (pv 9) pa_nil))) (pv 2))) (pw_or1 (pt_cmpR op_lt (pe_op op_add (pv 5) (pv 10)) (pe_ix (ixT (K := K)) (pe_dget (hu_of hr) (pv 2) (pe_tup (pa_cons (pv 3) (pa_cons (pv 9) pa_nil))) (fun _ _ => rfl)) pe_int (fun _ _ => rfl)) (nomark _)))))))) (pss_one (ps_dput (hu_of hr) (pv 2) (pe_tup (pa_cons (pv 3) (pa_cons (pv 9) pa_nil))) (pe_tup (pa_cons (pe_op op_add (pv 5) (pv 10)) (pa_cons (pe_op op_catA (pv 6) (pe_tup (pa_cons (pv 7) pa_nil))) pa_nil))) rfl)) pss_nil)))))))
      (pss_one (ps_ret (pv 2))))), ?_⟩
    -- found = {}
    intro f hf
    have e0 := same_new (o := .dT []) hf
    refine ⟨d, _, e0 _ _ hd, trivial, fun od => ?_⟩
    have hfd : f ≠ d := (ne_of_none hd hf).symm
    generalize hEM : edgesM rs = EM at k hsz
    have hkl := hkv.length
    have l1 : ∀ (acc : WD) (kv : WK × Int), (longer1 EM D acc kv).length ≤ acc.length + EM.length := longer1_len EM D
    refine ⟨.ref d, rfl, d, od, rfl, .inr ⟨kvs, upd_same, ?_⟩⟩
    refine for_it (walk_keysT (kvs := kvs)) (fun i σ H1 => ∃ y3 y4 y5 y6 y7 y8 y9 y10, σ = [some nv, some (.ref d), some (.ref f), y3, y4, y5, y6, y7, y8, y9, y10] ∧ H1 d = some (.frz od (.dT kvs)) ∧ SameX d H H1 ∧
        ∃ kf, H1 f = some (.dT kf) ∧ KvOk H1 (c + 1) kf ((D.take i).foldl (longer1 EM D) []))
      ⟨_, _, _, _, _, _, _, _, rfl, upd_same, ?_, [], ?_, .nil⟩ (fun i σ H1 _ p => ?_) (fun i x σ H1 H2 hi p hx => ?_) (fun σ H1 p => ?_)
    · exact fun b o ne h => by
        rw [upd_ne ne]
        exact e0 b o h
    · rw [upd_ne hfd]
      exact upd_same
    · obtain ⟨_, _, _, _, _, _, _, _, _, e, _⟩ := p
      exact e
    · obtain ⟨y3, y4, y5, y6, y7, y8, y9, y10, rfl, hd1, e1, kf, hf1, hkf⟩ := p
      obtain ⟨rfl, key, v0, q, hkey, rfl, hq⟩ := hx
      obtain ⟨ent, hent, ek, _⟩ := hkv.get hkey
      subst ek
      have tk1 : Tk H H2 := e1.tk hd
      have hq : H2 q = some (.tup [.int ent.1.1, .int ent.1.2]) := hq
      obtain ⟨v, hval, hw⟩ := (hkv.mono tk1 (Nat.le_refl c)).here (List.mem_of_getElem? hent)
      rw [foldl_take hent]
      generalize hacc : (D.take i).foldl (longer1 EM D) [] = acc at hkf
      have hal : acc.length + EM.length ≤ 900000 := by
        have h1 := foldl_len l1 (D.take i) []
        rw [hacc, List.length_take] at h1
        have hiD : i < D.length := (List.getElem?_eq_some_iff.mp hent).1
        have h2 : (min i D.length + 1) * EM.length ≤ D.length * EM.length := Nat.mul_le_mul_right _ (by omega)
        rw [Nat.add_mul, Nat.one_mul] at h2
        simp only [List.length_nil] at h1
        omega
      -- start, here = the key; length, walk = walks[(start, here)]
      refine ⟨q, _, rfl, SqT.of hq, rfl, _, _, rfl, _, _, rfl, rfl, ?_⟩
      refine ⟨.ref d, rfl, .int ent.1.1, rfl, .int ent.1.2, rfl, (show 2 ≤ sizeLine by decide), fun p hp => ?_⟩
      have eP := same_new (o := .tup [.int ent.1.1, .int ent.1.2]) hp
      refine ⟨d, v, rfl, ?_, ?_⟩
      · have g := get_frz (k := ent.1) (eP _ _ hd1) (upd_same (H := H2) (a := p) (o := .tup [.int ent.1.1, .int ent.1.2]))
        rw [hval] at g
        exact g
      obtain ⟨pw, qw, ws, rfl, hpw, hqw, hws⟩ := hw
      refine ⟨pw, _, rfl, SqT.of (eP _ _ hpw), rfl, _, _, rfl, _, _, rfl, rfl, ?_⟩
      generalize hU : upd H2 p (.tup [.int ent.1.1, .int ent.1.2]) = H3 at eP
      have tk3 : Tk H H3 := tk1.trans (tk_of eP)
      -- the edges
      refine ⟨nv, rfl, nv, n, rs, rfl, hn.mono tk3, hz, fun H4 ev e4 hE => ?_⟩
      rw [hEM] at hE
      obtain ⟨a, us, rfl, ha, hus⟩ := hE
      refine ⟨a, rfl, ⟨us, SqL.of ha⟩, ?_⟩
      have e34 : Same H2 H4 := eP.trans e4
      have hf4 := e34 _ _ hf1
      have haf : a ≠ f := ne_of ha hf4 fun z => nomatch z
      have hul : us.length = EM.length := Paired.length hus
      have r1 : ∀ (b : WD) (e : Edge), (relax ent.1.1 ent.1.2 (val D ent.1) b e).length ≤ b.length + 1 := relax_len _ _ _
      refine for_it (walk_list (xs := us)) (fun j σ H5 => ∃ y7 y8 y9 y10, σ = [some nv, some (.ref d), some (.ref f), some (.int ent.1.1), some (.int ent.1.2), some (.int (val D ent.1)), some (.ref qw), y7, y8, y9, y10] ∧
          H5 d = some (.frz od (.dT kvs)) ∧ SameX d H H5 ∧ H5 a = some (.lst us) ∧ Tk H4 H5 ∧ ∃ kf, H5 f = some (.dT kf) ∧ KvOk H5 (c + 1) kf ((EM.take j).foldl (relax ent.1.1 ent.1.2 (val D ent.1)) acc))
        ⟨_, _, _, _, rfl, e34 _ _ hd1, e1.trans e34, ha, Tk.refl _, kf, hf4, hkf.mono (tk_of e34) (Nat.le_refl _)⟩ (fun j σ H5 _ p => ?_) (fun j x σ H5 H6 hj p hx => ?_) (fun σ H5 p => ?_)
      · obtain ⟨_, _, _, _, _, _, _, e, _⟩ := p
        exact SqL.of e
      · obtain ⟨y7, y8, y9, y10, rfl, hd5, e5, ha5, tk5, kg, hg5, hkg⟩ := p
        obtain ⟨rfl, hx⟩ := hx
        obtain ⟨ed, hed, hx'⟩ := paired_get hus hx
        obtain ⟨pe, xe, rfl, hpe⟩ := hx'.mono tk5
        have hpe5 := hpe
        refine ⟨pe, _, rfl, SqT.of hpe5, rfl, _, _, rfl, _, _, rfl, _, _, rfl, _, _, rfl, rfl, ?_⟩
        have hstep := foldl_take (f := relax ent.1.1 ent.1.2 (val D ent.1)) (b := acc) hed
        generalize hacc2 : (EM.take j).foldl (relax ent.1.1 ent.1.2 (val D ent.1)) acc = acc2 at hkg hstep
        have hal2 : acc2.length ≤ 900000 := by
          have h1 := take_len r1 EM acc j
          rw [hacc2] at h1
          omega
        have hgl := hkg.length
        -- nothing is stored
        have nop : ∀ G, Same H6 G → ¬ (ed.1 = ent.1.2 ∧ better (look acc2 (ent.1.1, ed.2.1)) (val D ent.1 + ed.2.2) = true) →
            ∃ y7 y8 y9 y10, [some nv, some (V.ref d), some (.ref f), some (.int ent.1.1), some (.int ent.1.2), some (.int (val D ent.1)), some (.ref qw), some xe, some (.int ed.1), some (.int ed.2.1), some (.int ed.2.2)] =
                [some nv, some (.ref d), some (.ref f), some (.int ent.1.1), some (.int ent.1.2), some (.int (val D ent.1)), some (.ref qw), y7, y8, y9, y10] ∧
              G d = some (.frz od (.dT kvs)) ∧ SameX d H G ∧ G a = some (.lst us) ∧ Tk H4 G ∧ ∃ kf, G f = some (.dT kf) ∧ KvOk G (c + 1) kf ((EM.take (j + 1)).foldl (relax ent.1.1 ent.1.2 (val D ent.1)) acc) := fun G e no => by
          refine ⟨_, _, _, _, rfl, e _ _ hd5, e5.trans e, e _ _ ha5, tk5.trans (tk_of e), kg, e _ _ hg5, ?_⟩
          rw [hstep, relax_no no]
          exact hkg.mono (tk_of e) (Nat.le_refl _)
        -- the longer walk is stored
        have yes : ∀ G, Same H6 G → (ed.1 = ent.1.2 ∧ better (look acc2 (ent.1.1, ed.2.1)) (val D ent.1 + ed.2.2) = true) →
            sDPut (tVar 2) (tTup (tCons (tVar 3) (tCons (tVar 9) tNil))) (tTup (tCons (tOp (rI0 fun i j => .int (i + j)) (tVar 5) (tVar 10)) (tCons (tOp (rCatA K) (tVar 6) (tTup (tCons (tVar 7) tNil))) tNil)))
              { nx := fun σ H5 => ∃ y7 y8 y9 y10, σ = [some nv, some (.ref d), some (.ref f), some (.int ent.1.1), some (.int ent.1.2), some (.int (val D ent.1)), some (.ref qw), y7, y8, y9, y10] ∧
                  H5 d = some (.frz od (.dT kvs)) ∧ SameX d H H5 ∧ H5 a = some (.lst us) ∧ Tk H4 H5 ∧ ∃ kf, H5 f = some (.dT kf) ∧ KvOk H5 (c + 1) kf ((EM.take (j + 1)).foldl (relax ent.1.1 ent.1.2 (val D ent.1)) acc), rt := fun _ _ => False }
              [some nv, some (.ref d), some (.ref f), some (.int ent.1.1), some (.int ent.1.2), some (.int (val D ent.1)), some (.ref qw), some xe, some (.int ed.1), some (.int ed.2.1), some (.int ed.2.2)] G := fun G eG ok => by
          have hqG : G qw = some (.tup ws) := eG _ _ (tk5 _ _ (e34 _ _ hqw))
          -- behind the value's tuple
          have fin : ∀ (G1 : Hp) (r : Addr), Same G G1 → G1 r = some (.tup (ws ++ [xe])) → ∀ p5, G1 p5 = none →
              ∀ p6, upd G1 p5 (.tup [.int (val D ent.1 + ed.2.2), .ref r]) p6 = none →
              ∃ (a' : Addr) (H4' : Hp), V.ref f = .ref a' ∧ DPut (upd (upd G1 p5 (.tup [.int (val D ent.1 + ed.2.2), .ref r])) p6 (.tup [.int ent.1.1, .int ed.2.1])) a' (.ref p6) (.ref p5) H4' ∧
                ∃ y7 y8 y9 y10, [some nv, some (V.ref d), some (.ref f), some (.int ent.1.1), some (.int ent.1.2), some (.int (val D ent.1)), some (.ref qw), some xe, some (.int ed.1), some (.int ed.2.1), some (.int ed.2.2)] =
                    [some nv, some (.ref d), some (.ref f), some (.int ent.1.1), some (.int ent.1.2), some (.int (val D ent.1)), some (.ref qw), y7, y8, y9, y10] ∧
                  H4' d = some (.frz od (.dT kvs)) ∧ SameX d H H4' ∧ H4' a = some (.lst us) ∧ Tk H4 H4' ∧ ∃ kf, H4' f = some (.dT kf) ∧ KvOk H4' (c + 1) kf ((EM.take (j + 1)).foldl (relax ent.1.1 ent.1.2 (val D ent.1)) acc) := fun G1 r e1' hr' p5 hp5 p6 hp6 => by
            have eA := same_new (o := .tup [.int (val D ent.1 + ed.2.2), .ref r]) hp5
            have eB := same_new (o := .tup [.int ent.1.1, .int ed.2.1]) hp6
            generalize hG2 : upd G1 p5 (.tup [.int (val D ent.1 + ed.2.2), .ref r]) = G2 at eA eB hp6
            have h5 : G2 p5 = some (.tup [.int (val D ent.1 + ed.2.2), .ref r]) := by rw [← hG2]; exact upd_same
            generalize hG3 : upd G2 p6 (.tup [.int ent.1.1, .int ed.2.1]) = G3 at eB
            have h6 : G3 p6 = some (.tup [.int ent.1.1, .int ed.2.1]) := by rw [← hG3]; exact upd_same
            have eAll : Same H6 G3 := eG.trans (e1'.trans (eA.trans eB))
            have hf3 := eAll _ _ hg5
            refine ⟨f, _, rfl, DPut.t (k := keyM (ent.1.1, ed.2.1)) hf3 h6 (small5 (by omega)), _, _, _, _, rfl, ?_, (e5.trans eAll).mut hf, ?_, ?_, ?_⟩
            · rw [upd_ne hfd.symm]
              exact eAll _ _ hd5
            · rw [upd_ne haf]
              exact eAll _ _ ha5
            · exact (tk5.trans (tk_of eAll)).trans (tk_upd fun xs z => by rw [hf3] at z; cases z)
            · have tkU : Tk G3 (upd G3 f (.dT (putK kg (keyM (ent.1.1, ed.2.1)) (.ref p5)))) := tk_upd fun xs z => by rw [hf3] at z; cases z
              refine ⟨_, upd_same, ?_⟩
              rw [hstep, relax_yes ok]
              refine ((hkg.mono (tk_of eAll) (Nat.le_refl _)).put ⟨p5, r, _, rfl, eB _ _ h5, eB _ _ (eA _ _ hr'), ?_⟩).mono tkU (Nat.le_refl _)
              rw [List.length_append, List.length_singleton]
              omega
          refine ⟨.int (val D ent.1), rfl, .int ed.2.2, rfl, _, _, rfl, rfl, .ref qw, rfl, xe, rfl, (show 1 ≤ sizeLine by decide), fun p3 hp3 => ?_⟩
          have e3' := same_new (o := .tup [xe]) hp3
          refine ⟨qw, p3, ws, [xe], rfl, rfl, SqT.of (e3' _ _ hqG), SqT.of upd_same, ?_, fun wn => ?_, (fun _ z => absurd z (List.cons_ne_nil _ _)), fun wn _ p4 hp4 => ?_⟩
          · have := hws
            rw [List.length_singleton]
            exact Nat.le_of_lt (small5 (by omega))
          · refine ⟨(show 2 ≤ sizeLine by decide), fun p5 hp5 => ⟨.ref f, rfl, .int ent.1.1, rfl, .int ed.2.1, rfl, (show 2 ≤ sizeLine by decide), fun p6 hp6 => ?_⟩⟩
            exact fin _ p3 e3' (by rw [upd_same, wn]; rfl) p5 hp5 p6 hp6
          · have e4' := same_new (o := .tup (ws ++ [xe])) hp4
            refine ⟨(show 2 ≤ sizeLine by decide), fun p5 hp5 => ⟨.ref f, rfl, .int ent.1.1, rfl, .int ed.2.1, rfl, (show 2 ≤ sizeLine by decide), fun p6 hp6 => ?_⟩⟩
            exact fin _ p4 (e3'.trans e4') upd_same p5 hp5 p6 hp6
        -- if near == here and ..
        refine ⟨.int ed.1, rfl, .int ent.1.2, rfl, rfl, _, rfl, ?_⟩
        rw [int_dec]
        by_cases hnear : ed.1 = ent.1.2
        · rw [decide_eq_true hnear]
          refine iteT ⟨.int ent.1.1, rfl, .int ed.2.1, rfl, (show 2 ≤ sizeLine by decide), fun p1 hp1 => ⟨.ref f, rfl, f, valV kg (keyM (ent.1.1, ed.2.1)), rfl, ?_⟩⟩
          have eq1 := same_new (o := .tup [.int ent.1.1, .int ed.2.1]) hp1
          refine ⟨get_dT (k := (ent.1.1, ed.2.1)) (eq1 _ _ hg5) upd_same, _, rfl, ?_⟩
          rcases hkg.look (ent.1.1, ed.2.1) with ⟨c1, c2⟩ | ⟨v', L', c1, c2, pv', qv', wv', rfl, c3, c4, c5⟩
          · rw [c1]
            exact iteT (yes _ eq1 ⟨hnear, by rw [c2]; rfl⟩)
          · rw [c1]
            refine iteF ⟨.int (val D ent.1), rfl, .int ed.2.2, rfl, _, _, rfl, rfl, .ref f, rfl, .int ent.1.1, rfl, .int ed.2.1, rfl, (show 2 ≤ sizeLine by decide), fun p2 hp2 => ?_⟩
            have eq2 := same_new (o := .tup [.int ent.1.1, .int ed.2.1]) hp2
            have eq12 := eq1.trans eq2
            refine ⟨f, .ref pv', rfl, ?_, pv', _, 0, _, rfl, rfl, SqT.of (eq12 _ _ c3), atI_nat (j := 0) rfl, val D ent.1 + ed.2.2, L', rfl, rfl, _, rfl, ite2 (fun lt => ?_) fun ge => ?_⟩
            · have g := get_dT (k := (ent.1.1, ed.2.1)) (eq12 _ _ hg5) (upd_same (H := upd H6 p1 (.tup [.int ent.1.1, .int ed.2.1])) (a := p2) (o := .tup [.int ent.1.1, .int ed.2.1]))
              rw [c1] at g
              exact g
            · exact yes _ eq12 ⟨hnear, by rw [c2]; exact lt⟩
            · exact nop _ eq12 fun z => ge (by have z2 := z.2; rw [c2] at z2; exact z2)
        · rw [decide_eq_false hnear]
          exact nop _ (Same.refl _) fun z => hnear z.1
      · obtain ⟨y7, y8, y9, y10, rfl, hd5, e5, ha5, tk5, kg, hg5, hkg⟩ := p
        rw [hul, List.take_length] at hkg
        exact ⟨_, _, _, _, _, _, _, _, rfl, hd5, e5, kg, hg5, hkg⟩
    · obtain ⟨y3, y4, y5, y6, y7, y8, y9, y10, rfl, hd1, e1, kf, hf1, hkf⟩ := p
      rw [hkl, List.take_length] at hkf
      have hU : Tk H1 (upd H1 d (.dT kvs)) := tk_upd fun xs z => by rw [hd1] at z; cases z
      refine ⟨hd1, .ref f, rfl, k _ f kf (e1.back hd) hf ?_ (hkf.mono hU (Nat.le_refl _))⟩
      rw [upd_ne hfd]
      exact hf1
end
end AbW
namespace AbW
open PySem PySem.Spec PyProof.Rows L2 AbR AB
section
variable {P : Program} {w : World} {K : PySem.W.Frag} {mg : Str → Option Value} {base : Heap}
/-! ### with_walk -/
abbrev s_with_walk : Stmt := topS 28
theorem sc_with_walk : FnScope ["best", "pair", "value", "found", "key"] ["best", "pair", "value"] (defScope s_with_walk) := ⟨rfl, rfl, rfl, by decide +kernel, rfl, by decide +kernel, by decide +kernel⟩
def spWith : Sp := fun vs H Q _ => ∃ (b q : Addr) (v : V) (kvs : List (List Key × V)) (D : WD) (c : Nat) (k : WK) (L : Int), vs = [.ref b, .ref q, v] ∧ H b = some (.dT kvs) ∧ KvOk H c kvs D ∧ H q = some (.tup [.int k.1, .int k.2]) ∧ WalkAt H c v L ∧
  D.length ≤ 900000 ∧ ∀ H' d' kvs', Same H H' → H d' = none → H' d' = some (.dT kvs') → KvOk H' c kvs' (put (copyM D) k L) → Q (.ref d') H'
theorem kn_with_walk (D : Df K mg "with_walk" "with_walk" s_with_walk) : Kn P w K mg base 1 "with_walk" ["best", "pair", "value"] spWith := by
  refine kn_of D (fun _ _ _ _ _ _ us hl => match us, hl with | [_, _, _], _ => rfl) fun f fd F => F.ok sc_with_walk (fun vs H Q E h => ?_) (fun cdv A outer s H vs Q E hr h => ?_)
  · obtain ⟨b, q, v, kvs, D, c, k, L, rfl, _⟩ := h
    rfl
  · obtain ⟨b, q, v, kvs, D, c, ky, L, rfl, hb, hkv, hq, hv, hz, k⟩ := h
    refine ⟨_, (pss_cons (ps_lock (ps_setDt (i := 3) (own := [("key", 4)]) rfl sc_with_walk.nd (hu_of hr) rfl rfl (sw_dict rfl rfl rfl (by decide +kernel)) (pi_keys (pv 0)) (blkOk_by (own := [("key", 4)]) (N := ["best", "pair", "value", "found", "key"]) (sc := (defScope s_with_walk)) (by decide +kernel)) (fun _ _ _ _ _ => (pg_name (i := 4) sc_with_walk.nd rfl (by first | exact Or.inl rfl | exact Or.inr rfl))) (fun _ _ _ _ _ => (pv 4)) (fun _ _ _ _ _ => (pe_dget (hu_of hr) (pv 0) (pv 4) (fun _ _ => rfl)))))
      (pss_cons (ps_dput (hu_of hr) (pv 3) (pv 1) (pv 2) rfl)
      (pss_one (ps_ret (pv 3))))), ?_⟩
    have hkl := hkv.length
    refine ⟨b, _, hb, trivial, fun od => ?_⟩
    refine ⟨.ref b, rfl, b, od, rfl, .inr ⟨kvs, upd_same, fun Dn hDn => ?_⟩⟩
    have hnb : Dn ≠ b := fun z => by
      rw [z, upd_same] at hDn
      cases hDn
    have hDn0 : H Dn = none := by
      rw [upd_ne hnb] at hDn
      exact hDn
    have hc0 : ∀ i, ((D.take i).foldl (fun acc kv => put acc kv.1 (val D kv.1)) []).length ≤ D.length := fun i => by
      have h := take_len (f := fun acc (kv : WK × Int) => put acc kv.1 (val D kv.1)) (m := 1) (fun b a => put_len b a.1 (val D a.1)) D [] i
      simpa using h
    refine dt_it (walk_keysT (kvs := kvs)) (fun i H1 => H1 b = some (.frz od (.dT kvs)) ∧ SameX b H H1 ∧ ∃ kn, H1 Dn = some (.dT kn) ∧ KvOk H1 c kn ((D.take i).foldl (fun acc kv => put acc kv.1 (val D kv.1)) []))
      ⟨?_, fun x o ne h => ?_, [], upd_same, .nil⟩ (fun i H1 _ p => p.1) (fun i x H1 H2 hi p hx => ?_) (fun H1 p => ?_)
    · rw [upd_ne hnb.symm]
      exact upd_same
    · rw [upd_ne (ne_of_none h hDn0), upd_ne ne]
      exact h
    · obtain ⟨hb1, e1, kn, hn1, hkn⟩ := p
      obtain ⟨rfl, key, v0, qk, hkey, rfl, hqk⟩ := hx
      obtain ⟨ent, hent, ek, _⟩ := hkv.get hkey
      subst ek
      have hqk : H2 qk = some (.tup [.int ent.1.1, .int ent.1.2]) := hqk
      obtain ⟨v1, hval, hw⟩ := (hkv.mono (e1.tk hb) (Nat.le_refl c)).here (List.mem_of_getElem? hent)
      have hl := hkn.length
      have hl2 := hc0 i
      refine ⟨rfl, .ref qk, rfl, .ref b, rfl, .ref qk, rfl, b, v1, rfl, ?_, _, DPut.t (k := keyM ent.1) hn1 hqk (small5 (by omega)), ?_, e1.mut hDn0, _, upd_same, ?_⟩
      · have g := get_frz (k := ent.1) hb1 hqk
        rw [hval] at g
        exact g
      · rw [upd_ne hnb.symm]
        exact hb1
      · have tkU : Tk H2 (upd H2 Dn (.dT (putK kn (keyM ent.1) v1))) := tk_upd fun xs z => by rw [hn1] at z; cases z
        rw [foldl_take hent]
        exact (hkn.put hw).mono tkU (Nat.le_refl _)
    · obtain ⟨hb1, e1, kn, hn1, hkn⟩ := p
      rw [hkl, List.take_length] at hkn
      have tkU : Tk H1 (upd H1 b (.dT kvs)) := tk_upd fun xs z => by rw [hb1] at z; cases z
      have eB := e1.back hb
      have hn2 : (upd H1 b (.dT kvs)) Dn = some (.dT kn) := by
        rw [upd_ne hnb]
        exact hn1
      refine ⟨hb1, v, rfl, .ref Dn, rfl, .ref q, rfl, ?_⟩
      generalize hU : upd H1 b (.dT kvs) = H2 at eB tkU hn2
      have hl := hkn.length
      have hl2 := hc0 D.length
      rw [List.take_length] at hl2
      refine ⟨Dn, _, rfl, DPut.t (k := keyM ky) hn2 (eB _ _ hq) (small5 (by omega)), .ref Dn, rfl, ?_⟩
      have tk2 : Tk H2 (upd H2 Dn (.dT (putK kn (keyM ky) v))) := tk_upd fun xs z => by rw [hn2] at z; cases z
      refine k _ Dn _ (same_mut eB hDn0) hDn0 upd_same ?_
      exact ((hkn.mono tkU (Nat.le_refl _)).put (hv.mono (tk_of eB) (Nat.le_refl _))).mono tk2 (Nat.le_refl _)
/-! ### the dict of the walks without edges -/
theorem init_dt {n e : Nat} {σ : L2.St} {vs : List Nat} {H1 : Hp} {Dn : Addr} {Qd : Hp → Prop} (hD : H1 Dn = none) (hn : n ≤ 1000) (hw : ∀ x, wipe ((wipe σ vs).set e (some x)) vs = wipe σ vs) (he : ∀ x, ((wipe σ vs).set e (some x))[e]? = some (some x))
    (hd : ∀ H' kvs, Same H1 H' → H' Dn = some (.dT kvs) → KvOk H' 0 kvs (initM n) → Qd H') :
    ∃ W : Nat → Nat → Hp → Prop, (∃ m, W 0 m (upd H1 Dn (.dT []))) ∧ ∀ i m H, W i m H → ((Itr 0 n).stop i H ∧ Qd H) ∨ ((Itr 0 n).go i H ∧ ∃ Nx : Hp → Prop, (∀ H', Nx H' → ∃ m', m' < m ∧ W (i + 1) m' H') ∧
      ∀ x H', (Itr 0 n).yld i H x H' → gName e x (wipe σ vs) H' fun σ2 H3 => wipe σ2 vs = wipe σ vs ∧ tTup (tCons (tVar e) (tCons (tVar e) tNil)) σ2 H3 fun y H4 => tTup (tCons (tC (.int 0)) (tCons (tTup tNil) tNil)) σ2 H4 fun z H5 => ∃ H6, DPut H5 Dn y z H6 ∧ Nx H6) := by
  have hl0 : ∀ i, i ≤ n → ((List.range i).foldl (fun acc i => put acc (i, i) 0) []).length ≤ n := fun i hi => Nat.le_trans (init_len i) hi
  refine dt_it walk_range (fun i H => Same H1 H ∧ ∃ kvs, H Dn = some (.dT kvs) ∧ KvOk H 0 kvs ((List.range i).foldl (fun acc i => put acc (i, i) 0) [])) ⟨same_new hD, [], upd_same, .nil⟩ (fun _ _ _ _ => trivial) (fun i x H H' hi p hx => ?_) (fun H p => ?_)
  · obtain ⟨e1, kvs, h1, hk⟩ := p
    obtain ⟨rfl, ex⟩ := hx
    have ei : x = .int i := by
      rw [ex]
      show V.int (0 + (i : Int)) = V.int i
      rw [Int.zero_add]
    subst ei
    refine ⟨hw _, .int i, he _, .int i, he _, (show 2 ≤ sizeLine by decide), fun p hp => ⟨Nat.zero_le _, fun p2 hp2 => ⟨(show 2 ≤ sizeLine by decide), fun p3 hp3 => ?_⟩⟩⟩
    have eA := same_new (o := .tup [.int i, .int i]) hp
    have eB := same_new (o := .tup []) hp2
    have eC := same_new (o := .tup [.int 0, .ref p2]) hp3
    generalize hA : upd H' p (.tup [.int i, .int i]) = HA at eA hp2 eB hp3 eC
    have hpA : HA p = some (.tup [.int i, .int i]) := by rw [← hA]; exact upd_same
    generalize hB : upd HA p2 (.tup []) = HB at eB hp3 eC
    have hpB : HB p2 = some (.tup []) := by rw [← hB]; exact upd_same
    generalize hC : upd HB p3 (.tup [.int 0, .ref p2]) = HC at eC
    have hpC : HC p3 = some (.tup [.int 0, .ref p2]) := by rw [← hC]; exact upd_same
    have eAll := eA.trans (eB.trans eC)
    have hDC := eAll _ _ h1
    have hl := hk.length
    have hl2 := hl0 i (Nat.le_of_lt hi)
    refine ⟨_, DPut.t (k := keyM (i, i)) hDC (eC _ _ (eB _ _ hpA)) (small5 (by omega)), same_mut (e1.trans eAll) hD, _, upd_same, ?_⟩
    rw [List.range_succ, List.foldl_append]
    have tkU : Tk HC (upd HC Dn (.dT (putK kvs (keyM (i, i)) (.ref p3)))) := tk_upd fun xs z => by rw [hDC] at z; cases z
    exact ((hk.mono (tk_of eAll) (Nat.le_refl _)).put ⟨p3, p2, [], rfl, hpC, eC _ _ hpB, Nat.le_refl _⟩).mono tkU (Nat.le_refl _)
  · obtain ⟨e1, kvs, h1, hk⟩ := p
    exact hd _ kvs e1 h1 hk
/-! ### first_round -/
/-- a net that is small, and can be kept -/
structure NetS (n : Nat) (rs : List Rule) : Prop where
  lo : 1 ≤ n
  hi : n ≤ 4
  len : rs.length ≤ 5
theorem NetS.edges {n : Nat} {rs : List Rule} (h : NetS n rs) : (edgesM rs).length ≤ 10 := by
  have h1 := edges_len rs
  have h2 := h.len
  omega
theorem NetS.prod {n : Nat} {rs : List Rule} (h : NetS n rs) {k : Nat} (hk : k ≤ 4) : (iterL (edgesM rs) n k).length * (edgesM rs).length ≤ 900000 := by
  have h1 := iter_len4 (k := k) h.hi h.edges hk
  have h2 := Nat.mul_le_mul h1 h.edges
  omega
abbrev s_first_round : Stmt := topS 26
theorem sc_first_round : FnScope ["net", "event", "walks", "turn"] ["net"] (defScope s_first_round) := ⟨rfl, rfl, rfl, by decide +kernel, rfl, by decide +kernel, by decide +kernel⟩
def spFirst : Sp := fun vs H Q _ => ∃ (v : V) (n : Nat) (rs : List Rule) (t : List Int), vs = [v] ∧ NetAt H v n rs ∧ NetS n rs ∧ Kept t rs ∧ ∀ H', Same H H' → Q .non H'
theorem kn_first_round (gb : Gb mg) (k_longer_walks : Kn P w K mg base 2 "longer_walks" ["net", "walks"] spLonger) (D : Df K mg "first_round" "first_round" s_first_round) : Kn P w K mg base 3 "first_round" ["net"] spFirst := by
  refine kn_of D (fun _ _ _ _ _ _ us hl => match us, hl with | [_], _ => rfl) fun f fd F => F.ok sc_first_round (fun vs H Q E h => ?_) (fun cdv A outer s H vs Q E hr h => ?_)
  · obtain ⟨v, n, rs, t, rfl, _⟩ := h
    rfl
  · obtain ⟨v, n, rs, t, rfl, hn, hS, kept, k⟩ := h
    obtain ⟨a, b, us, rfl, ha, hb, hp⟩ := id hn
    have hlo := hS.lo
    have hhi := hS.hi
    have hlen := hS.len
    have hlow := Low.iterL kept.edges n
    refine ⟨_, (pss_cons (ps_setDt (i := 2) (own := [("event", 1)]) rfl sc_first_round.nd (hu_of hr) rfl rfl (sw_dict rfl rfl rfl (by decide +kernel)) (pi_range1 (by rfl) gb.range (pa_cons (pe_ix (ixT (K := K)) (pv 0) pe_int (fun _ _ => rfl)) pa_nil)) (blkOk_by (own := [("event", 1)]) (N := ["net", "event", "walks", "turn"]) (sc := (defScope s_first_round)) (by decide +kernel)) (fun _ _ _ _ _ => (pg_name (i := 1) sc_first_round.nd rfl (by first | exact Or.inl rfl | exact Or.inr rfl))) (fun _ _ _ _ _ => (pe_tup (pa_cons (pv 1) (pa_cons (pv 1) pa_nil)))) (fun _ _ _ _ _ => (pe_tup (pa_cons pe_int (pa_cons (pe_tup pa_nil) pa_nil)))))
      (pss_cons (ps_for PassesOwn.never rfl (pi_range1 (by rfl) gb.range (pa_cons (pe_ix (ixT (K := K)) (pv 0) pe_int (fun _ _ => rfl)) pa_nil)) (pg_name (i := 3) sc_first_round.nd rfl (Or.inl rfl)) (pss_cons (ps_set (i := 2) sc_first_round.nd rfl (Or.inl rfl) (pe_kn k_longer_walks (hr.mono (by decide)) (by rfl) (pa_cons (pv 0) (pa_cons (pv 2) pa_nil))))
      (pss_one (ps_for PassesOwn.never rfl (pi_range1 (by rfl) gb.range (pa_cons (pe_ix (ixT (K := K)) (pv 0) pe_int (fun _ _ => rfl)) pa_nil)) (pg_name (i := 1) sc_first_round.nd rfl (Or.inl rfl)) (pss_one (ps_if (PW.pt (pw_and (pt_cmp (pc_din (hu_of hr) (pe_tup (pa_cons (pv 1) (pa_cons (pv 1) pa_nil))) (pv 2))) (pw_and1 (pt_cmpR op_lt (pe_ix (ixT (K := K)) (pe_dget (hu_of hr) (pv 2) (pe_tup (pa_cons (pv 1) (pa_cons (pv 1) pa_nil))) (fun _ _ => rfl)) pe_int (fun _ _ => rfl)) pe_int (nomark _))))) (pss_one (ps_ret (pe_ix (ixT (K := K)) (pe_dget (hu_of hr) (pv 2) (pe_tup (pa_cons (pv 1) (pa_cons (pv 1) pa_nil))) (fun _ _ => rfl)) pe_int (fun _ _ => rfl)))) pss_nil))))))
      (pss_one (ps_ret pe_non)))), ?_⟩
    refine ⟨.ref a, rfl, a, _, 0, _, rfl, rfl, SqT.of ha, atI_nat (j := 0) rfl, n, rfl, by omega, by omega, fun Dn hDn => init_dt hDn (by omega) (fun _ => rfl) (fun _ => rfl) fun H1 kvs e1 h1 hk => ?_⟩
    refine ⟨.ref a, rfl, a, _, 0, _, rfl, rfl, SqT.of (e1 _ _ ha), atI_nat (j := 0) rfl, n, rfl, by omega, by omega, ?_⟩
    refine for_it walk_range (fun i σ H2 => ∃ y1 y3 d kv, σ = [some (.ref a), y1, some (.ref d), y3] ∧ Same H H2 ∧ H2 d = some (.dT kv) ∧ KvOk H2 i kv (iterL (edgesM rs) n i))
      ⟨_, _, _, _, rfl, e1, h1, hk⟩ (fun _ _ _ _ _ => trivial) (fun i x σ H2 H3 hi p hx => ?_) (fun σ H2 p => ?_)
    · obtain ⟨y1, y3, d, kv, rfl, e2, h2, hk2⟩ := p
      obtain ⟨rfl, rfl⟩ := hx
      have hi' : i < n := hi
      refine ⟨.ref a, rfl, .ref d, rfl, .ref a, d, n, rs, kv, _, i, rfl, hn.mono (tk_of e2), by omega, h2, hk2, by omega, hS.prod (by omega), fun H4 d' kv' e4 _ h4 hk4 => ?_⟩
      have e24 := e2.trans e4
      refine ⟨.ref a, rfl, a, _, 0, _, rfl, rfl, SqT.of (e24 _ _ ha), atI_nat (j := 0) rfl, n, rfl, by omega, by omega, ?_⟩
      refine for_it walk_range (fun j σ H5 => ∃ y1, σ = [some (.ref a), y1, some (.ref d'), some (.int (0 + (i : Nat)))] ∧ Same H4 H5) ⟨_, rfl, Same.refl _⟩ (fun _ _ _ _ _ => trivial) (fun j x σ H5 H6 hj p hx => ?_) (fun σ H5 p => ?_)
      · obtain ⟨y1, rfl, e5⟩ := p
        obtain ⟨rfl, ex⟩ := hx
        have ej : x = .int j := by
          rw [ex]
          show V.int (0 + (j : Int)) = V.int j
          rw [Int.zero_add]
        subst ej
        refine ⟨.int j, rfl, .int j, rfl, (show 2 ≤ sizeLine by decide), fun p1 hp1 => ⟨.ref d', rfl, d', valV kv' (keyM (j, j)), rfl, ?_⟩⟩
        have eq1 := same_new (o := .tup [.int j, .int j]) hp1
        have e51 := e5.trans eq1
        refine ⟨get_dT (k := (j, j)) (e51 _ _ h4) upd_same, _, rfl, ?_⟩
        rcases hk4.look (j, j) with ⟨c1, c2⟩ | ⟨v', L', c1, c2, pv', qv', wv', rfl, c3, c4, c5⟩
        · rw [c1]
          exact iteF ⟨_, rfl, e51⟩
        · rw [c1]
          refine iteT ⟨.ref d', rfl, .int j, rfl, .int j, rfl, (show 2 ≤ sizeLine by decide), fun p2 hp2 => ?_⟩
          have eq2 := same_new (o := .tup [.int j, .int j]) hp2
          have e512 := e51.trans eq2
          refine ⟨d', .ref pv', rfl, ?_, pv', _, 0, _, rfl, rfl, SqT.of (e512 _ _ c3), atI_nat (j := 0) rfl, L', 0, rfl, rfl, _, rfl, ite2 (fun lt => ?_) fun ge => ?_⟩
          · have g := get_dT (k := (j, j)) (e512 _ _ h4) (upd_same (H := upd H6 p1 (.tup [.int j, .int j])) (a := p2) (o := .tup [.int j, .int j]))
            rw [c1] at g
            exact g
          · have h0 := (hlow (i + 1)).look c2
            have h1 := of_decide_eq_true lt
            omega
          · exact ⟨_, rfl, e512⟩
      · obtain ⟨y1, rfl, e5⟩ := p
        exact ⟨_, _, d', kv', rfl, e24.trans e5, e5 _ _ h4, hk4.mono (tk_of e5) (Nat.le_refl _)⟩
    · obtain ⟨y1, y3, d, kv, rfl, e2, h2, hk2⟩ := p
      exact k _ e2
end
end AbW
namespace AbW
open PySem PySem.Spec PyProof.Rows L2 AbR AB
section
variable {P : Program} {w : World} {K : PySem.W.Frag} {mg : Str → Option Value} {base : Heap}
/-! ### shortest_walks -/
abbrev s_shortest_walks : Stmt := topS 27
theorem sc_shortest_walks : FnScope ["net", "best", "walks", "turn", "pair", "event"] ["net"] (defScope s_shortest_walks) := ⟨rfl, rfl, rfl, by decide +kernel, rfl, by decide +kernel, by decide +kernel⟩
def spShort : Sp := fun vs H Q _ => ∃ (v : V) (n : Nat) (rs : List Rule), vs = [v] ∧ NetAt H v n rs ∧ NetS n rs ∧ ∀ H' d' kvs', Same H H' → H' d' = some (.dT kvs') → KvOk H' 4 kvs' (shortest n (edgesM rs)) → Q (.ref d') H'
theorem kn_shortest_walks (gb : Gb mg) (k_longer_walks : Kn P w K mg base 2 "longer_walks" ["net", "walks"] spLonger) (k_with_walk : Kn P w K mg base 1 "with_walk" ["best", "pair", "value"] spWith) (D : Df K mg "shortest_walks" "shortest_walks" s_shortest_walks) :
    Kn P w K mg base 3 "shortest_walks" ["net"] spShort := by
  refine kn_of D (fun _ _ _ _ _ _ us hl => match us, hl with | [_], _ => rfl) fun f fd F => F.ok sc_shortest_walks (fun vs H Q E h => ?_) (fun cdv A outer s H vs Q E hr h => ?_)
  · obtain ⟨v, n, rs, rfl, _⟩ := h
    rfl
  · obtain ⟨v, n, rs, rfl, hn, hS, k⟩ := h
    obtain ⟨a, b, us, rfl, ha, hb, hp⟩ := id hn
    have hlo := hS.lo
    have hhi := hS.hi
    have hlen := hS.len
    refine ⟨_, (pss_cons (ps_setDt (i := 1) (own := [("event", 5)]) rfl sc_shortest_walks.nd (hu_of hr) rfl rfl (sw_dict rfl rfl rfl (by decide +kernel)) (pi_range1 (by rfl) gb.range (pa_cons (pe_ix (ixT (K := K)) (pv 0) pe_int (fun _ _ => rfl)) pa_nil)) (blkOk_by (own := [("event", 5)]) (N := ["net", "best", "walks", "turn", "pair", "event"]) (sc := (defScope s_shortest_walks)) (by decide +kernel)) (fun _ _ _ _ _ => (pg_name (i := 5) sc_shortest_walks.nd rfl (by first | exact Or.inl rfl | exact Or.inr rfl))) (fun _ _ _ _ _ => (pe_tup (pa_cons (pv 5) (pa_cons (pv 5) pa_nil)))) (fun _ _ _ _ _ => (pe_tup (pa_cons pe_int (pa_cons (pe_tup pa_nil) pa_nil)))))
      (pss_cons (ps_set (i := 2) sc_shortest_walks.nd rfl (Or.inl rfl) (pv 1))
      (pss_cons (ps_for PassesOwn.never rfl (pi_range1 (by rfl) gb.range (pa_cons (pe_op op_sub (pe_ix (ixT (K := K)) (pv 0) pe_int (fun _ _ => rfl)) pe_int) pa_nil)) (pg_name (i := 3) sc_shortest_walks.nd rfl (Or.inl rfl)) (pss_cons (ps_set (i := 2) sc_shortest_walks.nd rfl (Or.inl rfl) (pe_kn k_longer_walks (hr.mono (by decide)) (by rfl) (pa_cons (pv 0) (pa_cons (pv 2) pa_nil))))
      (pss_one (ps_lock (ps_for PassesOwn.never rfl (pi_keys (pv 2)) (pg_name (i := 4) sc_shortest_walks.nd rfl (Or.inl rfl)) (pss_one (ps_if (PW.pt (pw_or (pt_cmp (pc_dnotin (hu_of hr) (pv 4) (pv 1))) (pw_or1 (pt_cmpR op_lt (pe_ix (ixT (K := K)) (pe_dget (hu_of hr) (pv 2) (pv 4) (fun _ _ => rfl)) pe_int (fun _ _ => rfl)) (pe_ix (ixT (K := K)) (pe_dget (hu_of hr) (pv 1) (pv 4) (fun _ _ => rfl)) pe_int (fun _ _ => rfl)) (nomark _))))) (pss_one (ps_set (i := 1) sc_shortest_walks.nd rfl (Or.inl rfl) (pe_kn k_with_walk (hr.mono (by decide)) (by rfl) (pa_cons (pv 1) (pa_cons (pv 4) (pa_cons (pe_dget (hu_of hr) (pv 2) (pv 4) (fun _ _ => rfl)) pa_nil)))))) pss_nil)))))))
      (pss_one (ps_ret (pv 1)))))), ?_⟩
    refine ⟨.ref a, rfl, a, _, 0, _, rfl, rfl, SqT.of ha, atI_nat (j := 0) rfl, n, rfl, by omega, by omega, fun Dn hDn => init_dt hDn (by omega) (fun _ => rfl) (fun _ => rfl) fun H1 kvs e1 h1 hk => ?_⟩
    refine ⟨.ref Dn, rfl, .ref a, rfl, a, _, 0, _, rfl, rfl, SqT.of (e1 _ _ ha), atI_nat (j := 0) rfl, n, 1, rfl, rfl, (n : Int) - 1, rfl, by omega, by omega, ?_⟩
    have hcount : ((n : Int) - 1).toNat = n - 1 := by omega
    rw [hcount]
    refine for_it walk_range (fun i σ H2 => ∃ y3 y4 y5 b w kb kw, σ = [some (.ref a), some (.ref b), some (.ref w), y3, y4, y5] ∧ Same H H2 ∧ H2 b = some (.dT kb) ∧ KvOk H2 i kb (shortS (edgesM rs) n i) ∧ H2 w = some (.dT kw) ∧ KvOk H2 i kw (iterL (edgesM rs) n i))
      ⟨_, _, _, Dn, Dn, kvs, kvs, rfl, e1, h1, hk, h1, hk⟩ (fun _ _ _ _ _ => trivial) (fun i x σ H2 H3 hi p hx => ?_) (fun σ H2 p => ?_)
    · obtain ⟨y3, y4, y5, b, w, kb, kw, rfl, e2, hb2, hkb, hw2, hkw⟩ := p
      obtain ⟨rfl, rfl⟩ := hx
      have hi' : i < n - 1 := hi
      refine ⟨.ref a, rfl, .ref w, rfl, .ref a, w, n, rs, kw, _, i, rfl, hn.mono (tk_of e2), by omega, hw2, hkw, by omega, hS.prod (by omega), fun H4 d' kv' e4 hnew h4 hk4 => ?_⟩
      have e24 := e2.trans e4
      have hb4 := e4 _ _ hb2
      have hbd : b ≠ d' := ne_of_none hb2 hnew
      have hk4 : KvOk H4 (i + 1) kv' (iterL (edgesM rs) n (i + 1)) := hk4
      have hWl := iter_len4 (k := i + 1) hS.hi hS.edges (by omega)
      have hBl := short_len hS.hi hS.edges i (by omega)
      have hsh : shortS (edgesM rs) n (i + 1) = mergeM (shortS (edgesM rs) n i) (iterL (edgesM rs) n (i + 1)) := rfl
      generalize hWW : iterL (edgesM rs) n (i + 1) = WW at hk4 hWl hsh
      generalize hBB : shortS (edgesM rs) n i = BB at hkb hBl hsh
      have hkl := hk4.length
      refine ⟨d', _, h4, trivial, fun od => ⟨.ref d', rfl, d', od, rfl, .inr ⟨kv', upd_same, ?_⟩⟩⟩
      refine for_it (walk_keysT (kvs := kv')) (fun j σ H5 => ∃ y4 y5 b' kb', σ = [some (.ref a), some (.ref b'), some (.ref d'), some (.int (0 + (i : Nat))), y4, y5] ∧ H5 d' = some (.frz od (.dT kv')) ∧ SameX d' H4 H5 ∧ b' ≠ d' ∧ H5 b' = some (.dT kb') ∧
          KvOk H5 (i + 1) kb' ((WW.take j).foldl (merge1 WW) BB))
        ⟨_, _, b, kb, rfl, upd_same, sameX_upd, hbd, ?_, ?_⟩ (fun j σ H5 _ p => ?_) (fun j x σ H5 H6 hj p hx => ?_) (fun σ H5 p => ?_)
      · rw [upd_ne hbd]
        exact hb4
      · exact hkb.mono ((tk_of e4).trans (sameX_upd.tk h4)) (Nat.le_succ i)
      · obtain ⟨_, _, _, _, _, e, _⟩ := p
        exact e
      · obtain ⟨y4, y5, b', kb', rfl, hd5, e5, hne, hb5, hkb5⟩ := p
        obtain ⟨rfl, key, v0, q, hkey, rfl, hq⟩ := hx
        obtain ⟨ent, hent, ek, _⟩ := hk4.get hkey
        subst ek
        have hq : H6 q = some (.tup [.int ent.1.1, .int ent.1.2]) := hq
        obtain ⟨vW, hval, hw⟩ := (hk4.mono (e5.tk h4) (Nat.le_refl _)).here (List.mem_of_getElem? hent)
        have hstep := foldl_take (f := merge1 WW) (b := BB) hent
        have hal : ((WW.take j).foldl (merge1 WW) BB).length ≤ 900000 := by
          have h := take_len (m := 1) (fun b a => merge1_len WW b a) WW BB j
          omega
        generalize hacc : (WW.take j).foldl (merge1 WW) BB = acc at hkb5 hstep hal
        have gW : DGet H6 d' (.ref q) (some vW) := by
          have g := get_frz (k := ent.1) hd5 hq
          rw [hval] at g
          exact g
        have nop : ¬ better (look acc ent.1) (val WW ent.1) = true → ∃ z4 z5 b'' kb'', [some (V.ref a), some (.ref b'), some (.ref d'), some (.int (0 + (i : Nat))), some (.ref q), y5] = [some (.ref a), some (.ref b''), some (.ref d'), some (.int (0 + (i : Nat))), z4, z5] ∧
            H6 d' = some (.frz od (.dT kv')) ∧ SameX d' H4 H6 ∧ b'' ≠ d' ∧ H6 b'' = some (.dT kb'') ∧ KvOk H6 (i + 1) kb'' ((WW.take (j + 1)).foldl (merge1 WW) BB) := fun no => by
          refine ⟨_, _, b', kb', rfl, hd5, e5, hne, hb5, ?_⟩
          rw [hstep, show merge1 WW acc ent = acc from if_neg no]
          exact hkb5
        have yes : better (look acc ent.1) (val WW ent.1) = true → tAsg (tCall spWith [] E0 (tCons (tVar 1) (tCons (tVar 4) (tCons (tDGet (tVar 2) (tVar 4)) tNil)))) (gName 1)
            { nx := fun σ H5 => ∃ y4 y5 b' kb', σ = [some (.ref a), some (.ref b'), some (.ref d'), some (.int (0 + (i : Nat))), y4, y5] ∧ H5 d' = some (.frz od (.dT kv')) ∧ SameX d' H4 H5 ∧ b' ≠ d' ∧ H5 b' = some (.dT kb') ∧
                KvOk H5 (i + 1) kb' ((WW.take (j + 1)).foldl (merge1 WW) BB), rt := fun _ _ => False }
            [some (.ref a), some (.ref b'), some (.ref d'), some (.int (0 + (i : Nat))), some (.ref q), y5] H6 := fun ok => by
          refine ⟨.ref b', rfl, .ref q, rfl, .ref d', rfl, .ref q, rfl, d', vW, rfl, gW, b', q, vW, kb', acc, i + 1, ent.1, val WW ent.1, rfl, hb5, hkb5, hq, hw, hal, fun H7 d2 kv2 e7 hnew2 h7 hk7 => ?_⟩
          refine ⟨_, _, d2, kv2, rfl, e7 _ _ hd5, e5.trans e7, (ne_of_none hd5 hnew2).symm, h7, ?_⟩
          rw [hstep, show merge1 WW acc ent = put (copyM acc) ent.1 (val WW ent.1) from if_pos ok]
          exact hk7
        refine ⟨.ref q, rfl, .ref b', rfl, b', valV kb' (keyM ent.1), rfl, get_dT hb5 hq, _, rfl, ?_⟩
        rcases hkb5.look ent.1 with ⟨c1, c2⟩ | ⟨v', L', c1, c2, pv', qv', wv', rfl, c3, c4, c5⟩
        · rw [c1]
          exact iteT (yes (by rw [c2]; rfl))
        · rw [c1]
          obtain ⟨pW, qW, wsW, rfl, hpW, _⟩ := hw
          refine iteF ⟨.ref d', rfl, .ref q, rfl, d', _, rfl, gW, pW, _, 0, _, rfl, rfl, SqT.of hpW, atI_nat (j := 0) rfl, .ref b', rfl, .ref q, rfl, b', .ref pv', rfl, ?_, pv', _, 0, _, rfl, rfl, SqT.of c3, atI_nat (j := 0) rfl,
            val WW ent.1, L', rfl, rfl, _, rfl, ite2 (fun lt => ?_) fun ge => ?_⟩
          · have g := get_dT (k := ent.1) hb5 hq
            rw [c1] at g
            exact g
          · exact yes (by rw [c2]; exact lt)
          · exact nop fun z => ge (by rw [c2] at z; exact z)
      · obtain ⟨y4, y5, b', kb', rfl, hd5, e5, hne, hb5, hkb5⟩ := p
        rw [hkl, List.take_length] at hkb5
        have tkU : Tk H5 (upd H5 d' (.dT kv')) := tk_upd fun xs z => by rw [hd5] at z; cases z
        have eB := e5.back h4
        refine ⟨hd5, _, _, _, b', d', kb', kv', rfl, e24.trans eB, ?_, ?_, upd_same, ?_⟩
        · rw [upd_ne hne]
          exact hb5
        · rw [hsh]
          exact hkb5.mono tkU (Nat.le_refl _)
        · exact hk4.mono (tk_of eB) (Nat.le_refl _)
    · obtain ⟨y3, y4, y5, b, w, kb, kw, rfl, e2, hb2, hkb, hw2, hkw⟩ := p
      exact ⟨.ref b, rfl, k _ b kb e2 hb2 (hkb.mono (Tk.refl _) (by omega))⟩
/-! ### bounds_of, known_bounds -/
abbrev s_bounds_of : Stmt := topS 29
theorem sc_bounds_of : FnScope ["net", "walks", "size", "i", "j"] ["net"] (defScope s_bounds_of) := ⟨rfl, rfl, rfl, by decide +kernel, rfl, by decide +kernel, by decide +kernel⟩
abbrev cmp_bounds_of_0 : Expr := retE ((defBody s_bounds_of).getD 3 (.Pass ⟨0, 0, 0, 0⟩))
def spBounds : Sp := fun vs H Q _ => ∃ (v : V) (n : Nat) (rs : List Rule) (t : List Int), vs = [v] ∧ NetAt H v n rs ∧ NetS n rs ∧ Kept t rs ∧ ∀ H' v', Same H H' → TableAt H' v' (boundsM n (edgesM rs)) → Q v' H'
theorem kn_bounds_of (gb : Gb mg) (k_first_round : Kn P w K mg base 3 "first_round" ["net"] spFirst) (k_shortest_walks : Kn P w K mg base 3 "shortest_walks" ["net"] spShort) (D : Df K mg "bounds_of" "bounds_of" s_bounds_of) :
    Kn P w K mg base 4 "bounds_of" ["net"] spBounds := by
  refine kn_of D (fun _ _ _ _ _ _ us hl => match us, hl with | [_], _ => rfl) fun f fd F => F.ok sc_bounds_of (fun vs H Q E h => ?_) (fun cdv A outer s H vs Q E hr h => ?_)
  · obtain ⟨v, n, rs, t, rfl, _⟩ := h
    rfl
  · obtain ⟨v, n, rs, t, rfl, hn, hS, kept, k⟩ := h
    obtain ⟨a, b, us, rfl, ha, hb, hp⟩ := id hn
    have hhi := hS.hi
    refine ⟨_, (pss_cons (ps_if (pt_cmpR op_notN (pe_kn k_first_round (hr.mono (by decide)) (by rfl) (pa_cons (pv 0) pa_nil)) pe_non (nomark _)) (pss_one (ps_ret pe_non)) pss_nil)
      (pss_cons (ps_set (i := 1) sc_bounds_of.nd rfl (Or.inr rfl) (pe_kn k_shortest_walks (hr.mono (by decide)) (by rfl) (pa_cons (pv 0) pa_nil)))
      (pss_cons (ps_set (i := 2) sc_bounds_of.nd rfl (Or.inr rfl) (pe_ix (ixT (K := K)) (pv 0) pe_int (fun _ _ => rfl)))
      (pss_one (ps_ret (pe_lc (own := [("i", 3)]) (by rfl) sc_bounds_of.nd (pi_range1 (by rfl) gb.range (pa_cons (pv 2) pa_nil)) (blkOk_by (own := [("i", 3)]) (N := ["net", "walks", "size", "i", "j"]) (sc := (defScope s_bounds_of)) (by decide +kernel)) (fun _ _ _ _ _ => (pg_name (i := 3) sc_bounds_of.nd rfl (by first | exact Or.inl rfl | exact Or.inr rfl))) (fun _ _ _ _ _ => pts_nil) (fun _ _ _ _ _ => (pe_lc (own := [("j", 4)]) (by rfl) sc_bounds_of.nd (pi_range1 (by rfl) gb.range (pa_cons (pv 2) pa_nil)) (blkOk_by (own := [("j", 4)]) (N := ["net", "walks", "size", "i", "j"]) (sc := (relS (compScope cmp_bounds_of_0) (defScope s_bounds_of))) (by decide +kernel)) (fun _ _ _ _ _ => (pg_name (i := 4) sc_bounds_of.nd rfl (by first | exact Or.inl rfl | exact Or.inr rfl))) (fun _ _ _ _ _ => pts_nil) (fun _ _ _ _ _ => (pe_ifExp (pt_cmp (pc_din (hu_of hr) (pe_tup (pa_cons (pv 3) (pa_cons (pv 4) pa_nil))) (pv 1))) (pe_ix (ixT (K := K)) (pe_dget (hu_of hr) (pv 1) (pe_tup (pa_cons (pv 3) (pa_cons (pv 4) pa_nil))) (fun _ _ => rfl)) pe_int (fun _ _ => rfl)) pe_non)))))))))), ?_⟩
    refine ⟨.ref a, rfl, .ref a, n, rs, t, rfl, hn, hS, kept, fun H1 e1 => ⟨rfl, _, rfl, iteNS rfl ?_⟩⟩
    refine ⟨.ref a, rfl, .ref a, n, rs, rfl, hn.mono (tk_of e1), hS, fun H2 wd kw e2 hw hkw => ?_⟩
    have e12 := e1.trans e2
    refine ⟨.ref a, rfl, a, _, 0, _, rfl, rfl, SqT.of (e12 _ _ ha), atI_nat (j := 0) rfl, ?_⟩
    generalize hSS : shortest n (edgesM rs) = SS at hkw
    have hBM : boundsM n (edgesM rs) = (List.range n).map fun i => (List.range n).map fun j => look SS (i, j) := by
      unfold boundsM
      rw [hSS]
    refine ⟨.int n, rfl, n, rfl, by omega, by omega, fun Dl hDl => ?_⟩
    refine lc_it walk_range (fun i H3 => Same H2 H3 ∧ ∃ us, H3 Dl = some (.lst us) ∧ Paired (fun v row => ∃ x : Addr, v = .ref x ∧ x ≠ Dl ∧ H3 x = some (.lst (row.map optV))) us ((List.range i).map fun i => (List.range n).map fun j => look SS (i, j)))
      ⟨same_new hDl, [], upd_same, .nil⟩ (fun _ _ _ _ => trivial) (fun i x H3 H4 hi p hx => ?_) (fun H3 p => ?_)
    · obtain ⟨e3, us3, h3, hp3⟩ := p
      obtain ⟨rfl, ex⟩ := hx
      have ei : x = .int i := by
        rw [ex]
        show V.int (0 + (i : Int)) = V.int i
        rw [Int.zero_add]
      subst ei
      have hi' : i < n := hi
      have hl3 : us3.length = i := by
        have h := Paired.length hp3
        rw [List.length_map, List.length_range] at h
        exact h
      refine ⟨rfl, .int n, rfl, n, rfl, by omega, by omega, fun Dr hDr => ?_⟩
      have hrD : Dr ≠ Dl := (ne_of_none h3 hDr).symm
      refine lc_it walk_range (fun j H5 => Same H4 H5 ∧ H5 Dr = some (.lst (((List.range j).map fun j => look SS (i, j)).map optV))) ⟨same_new hDr, upd_same⟩ (fun _ _ _ _ => trivial) (fun j x H5 H6 hj p hx => ?_) (fun H5 p => ?_)
      · obtain ⟨e5, h5⟩ := p
        obtain ⟨rfl, ex⟩ := hx
        have ej : x = .int j := by
          rw [ex]
          show V.int (0 + (j : Int)) = V.int j
          rw [Int.zero_add]
        subst ej
        have hj' : j < n := hj
        have hw6 := e5 _ _ (e3 _ _ hw)
        have hk6 := hkw.mono (tk_of (e3.trans e5)) (Nat.le_refl 4)
        -- the item that the row gets
        have app : ∀ (G : Hp) (o : Option Int), Same H6 G → o = look SS (i, j) → ∃ acc, G Dr = some (.lst acc) ∧ acc.length < sizeLine ∧ (Same H4 (upd G Dr (.lst (acc ++ [optV o]))) ∧
            (upd G Dr (.lst (acc ++ [optV o]))) Dr = some (.lst (((List.range (j + 1)).map fun j => look SS (i, j)).map optV))) := fun G o eG eo => by
          refine ⟨_, eG _ _ h5, ?_, same_mut (e5.trans eG) hDr, ?_⟩
          · rw [List.length_map, List.length_map, List.length_range]
            exact small5 (by omega)
          · rw [upd_same, List.range_succ, List.map_append, List.map_append, eo]
            rfl
        refine ⟨rfl, .int i, rfl, .int j, rfl, (show 2 ≤ sizeLine by decide), fun p1 hp1 => ⟨.ref wd, rfl, wd, valV kw (keyM (i, j)), rfl, ?_⟩⟩
        have eq1 := same_new (o := .tup [.int i, .int j]) hp1
        refine ⟨get_dT (k := (i, j)) (eq1 _ _ hw6) upd_same, _, rfl, ?_⟩
        rcases hk6.look (i, j) with ⟨c1, c2⟩ | ⟨v', L', c1, c2, pv', qv', wv', rfl, c3, c4, c5⟩
        · rw [c1]
          exact iteF (app _ none eq1 c2.symm)
        · rw [c1]
          refine iteT ⟨.ref wd, rfl, .int i, rfl, .int j, rfl, (show 2 ≤ sizeLine by decide), fun p2 hp2 => ?_⟩
          have eq2 := same_new (o := .tup [.int i, .int j]) hp2
          have eq12 := eq1.trans eq2
          refine ⟨wd, .ref pv', rfl, ?_, pv', _, 0, _, rfl, rfl, SqT.of (eq12 _ _ c3), atI_nat (j := 0) rfl, app _ (some L') eq12 c2.symm⟩
          have g := get_dT (k := (i, j)) (eq12 _ _ hw6) (upd_same (H := upd H6 p1 (.tup [.int i, .int j])) (a := p2) (o := .tup [.int i, .int j]))
          rw [c1] at g
          exact g
      · obtain ⟨e5, h5⟩ := p
        refine ⟨us3, e5 _ _ h3, small5 (by omega), same_mut (e3.trans e5) hDl, _, upd_same, ?_⟩
        rw [List.range_succ, List.map_append]
        have hnew : ∃ x : Addr, V.ref Dr = .ref x ∧ x ≠ Dl ∧ (upd H5 Dl (.lst (us3 ++ [.ref Dr]))) x = some (.lst (((List.range n).map fun j => look SS (i, j)).map optV)) := by
          refine ⟨Dr, rfl, hrD, ?_⟩
          rw [upd_ne hrD]
          exact h5
        refine pairedSnoc hnew (Paired.mapP hp3 fun v row z => ?_)
        obtain ⟨x, z1, z2, z3⟩ := z
        refine ⟨x, z1, z2, ?_⟩
        rw [upd_ne z2]
        exact e5 _ _ z3
    · obtain ⟨e3, us3, h3, hp3⟩ := p
      refine k _ _ (e12.trans e3) ?_
      rw [hBM]
      exact ⟨Dl, us3, rfl, h3, pairedMono (fun v row ⟨x, z1, _, z3⟩ => ⟨x, z1, z3⟩) hp3⟩
abbrev s_known_bounds : Stmt := topS 31
theorem sc_known_bounds : FnScope ["net", "bounds"] ["net"] (defScope s_known_bounds) := ⟨rfl, rfl, rfl, by decide +kernel, rfl, by decide +kernel, by decide +kernel⟩
def spKnown : Sp := fun vs H Q _ => ∃ (v : V) (n : Nat) (rs : List Rule) (t : List Int), vs = [v] ∧ NetAt H v n rs ∧ NetOk n rs ∧ NetS n rs ∧ Kept t rs ∧ ∀ H' v', Same H H' → TableAt H' v' (boundsM n (edgesM rs)) → Q v' H'
theorem kn_known_bounds (k_check_net_bounds : Kn P w K mg base 5 "check_net_bounds" ["net"] spCheckNet) (k_bounds_of : Kn P w K mg base 4 "bounds_of" ["net"] spBounds) (D : Df K mg "known_bounds" "known_bounds" s_known_bounds) :
    Kn P w K mg base 6 "known_bounds" ["net"] spKnown := by
  refine kn_of D (fun _ _ _ _ _ _ us hl => match us, hl with | [_], _ => rfl) fun f fd F => F.ok sc_known_bounds (fun vs H Q E h => ?_) (fun cdv A outer s H vs Q E hr h => ?_)
  · obtain ⟨v, n, rs, t, rfl, _⟩ := h
    rfl
  · obtain ⟨v, n, rs, t, rfl, hn, ok, hS, kept, k⟩ := h
    refine ⟨_, (pss_cons (ps_expr (pe_kn k_check_net_bounds (hr.mono (by decide)) (by rfl) (pa_cons (pv 0) pa_nil)))
      (pss_cons (ps_set (i := 1) sc_known_bounds.nd rfl (Or.inl rfl) (pe_kn k_bounds_of (hr.mono (by decide)) (by rfl) (pa_cons (pv 0) pa_nil)))
      (pss_cons (ps_if (pt_cmpR op_isN (pv 1) pe_non (nomark _)) (pss_one ps_never) pss_nil)
      (pss_one (ps_ret (pv 1)))))), v, rfl, v, n, rs, rfl, hn, ok, fun H1 e1 => ⟨v, rfl, v, n, rs, t, rfl, hn.mono (tk_of e1), hS, kept, fun H2 v' e2 hT => ?_⟩⟩
    have q := k H2 v' (e1.trans e2) hT
    obtain ⟨a, us, rfl, _⟩ := hT
    exact ⟨.ref a, rfl, rfl, false, rfl, iteF ⟨.ref a, rfl, q⟩⟩
/-! ### stepped -/
theorem lc_false {a : Addr} {xs : List V} {g : TG} {te : TE} {vs : List Nat} {σ : L2.St} {H1 : Hp} {D : Addr} {Qd : Hp → Prop} (hD : H1 D = none) (hT : SqT K H1 a xs) (hz : xs.length ≤ 1000)
    (hs : ∀ (i : Nat) (x : V) (H : Hp), Same H1 H → xs[i]? = some x → ∀ Q : VK, (∀ H', Same H H' → Q (.bl false) H') → g x (wipe σ vs) H fun σ2 H2 => wipe σ2 vs = wipe σ vs ∧ te σ2 H2 Q)
    (hd : ∀ H', Same H1 H' → H' D = some (.lst ((List.replicate xs.length false).map V.bl)) → Qd H') :
    ∃ W : Nat → Nat → Hp → Prop, (∃ m, W 0 m (upd H1 D (.lst []))) ∧ ∀ i m H, W i m H →
      ((Itt K a).stop i H ∧ Qd H) ∨ ((Itt K a).go i H ∧ ∃ Nx : Hp → Prop, (∀ H', Nx H' → ∃ m', m' < m ∧ W (i + 1) m' H') ∧ ∀ x H', (Itt K a).yld i H x H' → g x (wipe σ vs) H' fun σ2 H2 => wipe σ2 vs = wipe σ vs ∧ tYes σ2 H2 fun b H3 =>
        if b = true then te σ2 H3 fun y H4 => ∃ acc, H4 D = some (.lst acc) ∧ acc.length < sizeLine ∧ Nx (upd H4 D (.lst (acc ++ [y]))) else Nx H3) := by
  refine lc_tup (xs := xs) (fun i H => Same H1 H ∧ H D = some (.lst ((List.replicate i false).map V.bl))) ⟨same_new hD, upd_same⟩ (fun i H _ p => Same.seqT p.1 hT) (fun i x H hx p => ?_) (fun H p => hd H p.1 p.2)
  have hi : i < xs.length := (List.getElem?_eq_some_iff.mp hx).1
  refine hs i x H p.1 hx _ fun H' e => ⟨_, e _ _ p.2, ?_, same_mut (p.1.trans e) hD, ?_⟩
  · rw [List.length_map, List.length_replicate]
    exact small5 (by omega)
  · rw [upd_same, List.replicate_succ', List.map_append]
    rfl
theorem any_false (n : Nat) : (List.replicate n false).any id = false := by
  rw [List.any_eq_false]
  intro x hx
  rw [(List.mem_replicate.mp hx).2]
  exact Bool.false_ne_true
theorem steps_len (B : List (List (Option Int))) : ∀ (ss : List Stp) (t : List Int), (ss.foldl (stepM B) t).length = t.length
  | [], _ => rfl
  | s :: r, t => by
    show (r.foldl (stepM B) (stepM B t s)).length = t.length
    rw [steps_len B r, step_len]
theorem square_bounds (n : Nat) (E : List Edge) : Square n (boundsM n E) := by
  unfold boundsM
  refine ⟨by rw [List.length_map, List.length_range], fun r hr => ?_⟩
  obtain ⟨i, _, rfl⟩ := List.mem_map.mp hr
  rw [List.length_map, List.length_range]
abbrev s_stepped : Stmt := topS 45
theorem sc_stepped : FnScope ["net", "times", "steps", "bounds", "step", "kind", "event", "time"] ["net", "times", "steps"] (defScope s_stepped) := ⟨rfl, rfl, rfl, by decide +kernel, rfl, by decide +kernel, by decide +kernel⟩
def spStepped : Sp := fun vs H Q _ => ∃ (nv tv sv : V) (n : Nat) (rs : List Rule) (t : List Int) (ss : List Stp), vs = [nv, tv, sv] ∧ NetAt H nv n rs ∧ IntsAt H tv t ∧ StpsAt H sv ss ∧ NetOk n rs ∧ NetS n rs ∧ TimesOk n t ∧ Kept t rs ∧
  (∀ s ∈ ss, StpOk s) ∧ (∀ s ∈ ss, s.ev < n) ∧ ss.length ≤ 16 ∧ ∀ H' v', Same H H' → IntsAt H' v' (ss.foldl (stepM (boundsM n (edgesM rs))) t) → Q v' H'
theorem kn_stepped (gb : Gb mg) (k_known_bounds : Kn P w K mg base 6 "known_bounds" ["net"] spKnown) (k_check_times_repair : Kn P w K mg base 3 "check_times_repair" ["net", "times"] spCheckKept)
    (k_check_steps : Kn P w K mg base 5 "check_steps" ["steps"] spCheckSteps) (k_step_moved : Kn P w K mg base 1 "step_moved" ["bounds", "times", "step"] spMoved) (D : Df K mg "stepped" "stepped" s_stepped) :
    Kn P w K mg base 7 "stepped" ["net", "times", "steps"] spStepped := by
  refine kn_of D (fun _ _ _ _ _ _ us hl => match us, hl with | [_, _, _], _ => rfl) fun f fd F => F.ok sc_stepped (fun vs H Q E h => ?_) (fun cdv A outer s H vs Q E hr h => ?_)
  · obtain ⟨nv, tv, sv, n, rs, t, ss, rfl, _⟩ := h
    rfl
  · obtain ⟨nv, tv, sv, n, rs, t, ss, rfl, hn, ht, hs, ok, hS, tok, kept, hok, hev, hz, k⟩ := h
    have hhi := hS.hi
    refine ⟨_, (pss_cons (ps_set (i := 3) sc_stepped.nd rfl (Or.inl rfl) (pe_kn k_known_bounds (hr.mono (by decide)) (by rfl) (pa_cons (pv 0) pa_nil)))
      (pss_cons (ps_expr (pe_kn k_check_times_repair (hr.mono (by decide)) (by rfl) (pa_cons (pv 0) (pa_cons (pv 1) pa_nil))))
      (pss_cons (ps_expr (pe_kn k_check_steps (hr.mono (by decide)) (by rfl) (pa_cons (pv 2) pa_nil)))
      (pss_cons (ps_if (pt_val (pe_callB (cr_any (by rfl)) (by rfl) gb.any b_any (pa_cons (pe_lc (own := [("kind", 5), ("event", 6), ("time", 7)]) (by rfl) sc_stepped.nd (pi_tup (pv 2)) (blkOk_by (own := [("kind", 5), ("event", 6), ("time", 7)]) (N := ["net", "times", "steps", "bounds", "step", "kind", "event", "time"]) (sc := (defScope s_stepped)) (by decide +kernel)) (fun _ _ _ _ _ => (pg_tupK (K := K) (n := 3) (by rfl) (pgs_cons (pg_name (i := 5) sc_stepped.nd rfl (by first | exact Or.inl rfl | exact Or.inr rfl)) (pgs_cons (pg_name (i := 6) sc_stepped.nd rfl (by first | exact Or.inl rfl | exact Or.inr rfl)) (pgs_cons (pg_name (i := 7) sc_stepped.nd rfl (by first | exact Or.inl rfl | exact Or.inr rfl)) pgs_nil))))) (fun _ _ _ _ _ => pts_nil) (fun _ _ _ _ _ => (pe_cmpR op_ge (pv 6) (pe_ix (ixT (K := K)) (pv 0) pe_int (fun _ _ => rfl)) (nomark _)))) pa_nil))) (pss_one ps_never) pss_nil)
      (pss_cons (ps_for PassesOwn.never rfl (pi_tup (pv 2)) (pg_name (i := 4) sc_stepped.nd rfl (Or.inl rfl)) (pss_one (ps_set (i := 1) sc_stepped.nd rfl (Or.inl rfl) (pe_kn k_step_moved (hr.mono (by decide)) (by rfl) (pa_cons (pv 3) (pa_cons (pv 1) (pa_cons (pv 4) pa_nil)))))))
      (pss_one (ps_ret (pv 1)))))))), ?_⟩
    refine ⟨nv, rfl, nv, n, rs, t, rfl, hn, ok, hS, kept, fun H1 bv e1 hB => ?_⟩
    refine ⟨nv, rfl, tv, rfl, nv, tv, n, rs, t, rfl, hn.mono (tk_of e1), ht.mono (tk_of e1), ok, tok, kept, fun H2 e2 => ?_⟩
    have e12 := e1.trans e2
    refine ⟨sv, rfl, sv, ss, rfl, hs.mono (tk_of e12), hok, hz, fun H3 e3 => ?_⟩
    have e13 := e12.trans e3
    have hB3 := hB.mono (e2.trans e3)
    obtain ⟨sa, us, rfl, hsa, hus⟩ := hs.mono (tk_of e13)
    obtain ⟨na, nb, rus, rfl, hna, _, _⟩ := id hn
    have hul : us.length = ss.length := Paired.length hus
    refine ⟨.ref sa, rfl, sa, rfl, ⟨us, SqT.of hsa⟩, fun Dn hDn => lc_false hDn (SqT.of hsa) (by omega) (fun i x H4 e4 hx Q' q' => ?_) fun H4 e4 hl => ?_⟩
    · obtain ⟨st, hst, hx'⟩ := paired_get hus hx
      obtain ⟨xa, rfl, hxa⟩ := hx'.mono (tk_of e4)
      refine ⟨xa, _, rfl, SqT.of hxa, rfl, _, _, rfl, _, _, rfl, _, _, rfl, rfl, rfl, ?_⟩
      refine ⟨.int st.ev, rfl, .ref na, rfl, na, _, 0, _, rfl, rfl, SqT.of ((e13.trans e4) _ _ hna), atI_nat (j := 0) rfl, st.ev, n, rfl, rfl, ?_⟩
      have hlt := hev st (List.mem_of_getElem? hst)
      show Q' (.bl (decide ((n : Int) ≤ st.ev))) H4
      rw [decide_eq_false (by omega)]
      exact q' _ (Same.refl _)
    · refine ⟨Dn, List.replicate us.length false, rfl, SqL.of hl, ?_⟩
      rw [any_false]
      refine ⟨false, rfl, iteF ?_⟩
      have e14 := e13.trans e4
      refine ⟨.ref sa, rfl, sa, rfl, ⟨us, SqT.of (e4 _ _ hsa)⟩, ?_⟩
      generalize hBM : boundsM n (edgesM rs) = B at k hB3
      have sq : Square n B := hBM ▸ square_bounds n (edgesM rs)
      refine for_tup (xs := us) (fun i σ H5 => ∃ tv' y4 y5 y6 y7, σ = [some (.ref na), some tv', some (.ref sa), some bv, y4, y5, y6, y7] ∧ Same H4 H5 ∧ IntsAt H5 tv' ((ss.take i).foldl (stepM B) t))
        ⟨tv, _, _, _, _, rfl, Same.refl _, ht.mono (tk_of e14)⟩ (fun i σ H5 _ p => ?_) (fun i x σ H5 hx p => ?_) (fun σ H5 p => ?_)
      · obtain ⟨_, _, _, _, _, _, e, _⟩ := p
        exact SqT.of (e _ _ (e4 _ _ hsa))
      · obtain ⟨tv', y4, y5, y6, y7, rfl, e5, ht5⟩ := p
        obtain ⟨st, hst, hx'⟩ := paired_get hus hx
        have hlen : ((ss.take i).foldl (stepM B) t).length = n := by rw [steps_len, tok.len]
        refine ⟨bv, rfl, tv', rfl, x, rfl, bv, tv', x, B, _, st, rfl, hB3.mono (e4.trans e5), ht5, hx'.mono (tk_of (e4.trans e5)), by rw [hlen]; exact sq, by rw [hlen]; exact hev st (List.mem_of_getElem? hst), by rw [hlen]; omega, fun H6 v6 e6 h6 => ?_⟩
        refine ⟨v6, _, _, _, _, rfl, e5.trans e6, ?_⟩
        rw [foldl_take hst]
        exact h6
      · obtain ⟨tv', y4, y5, y6, y7, rfl, e5, ht5⟩ := p
        rw [hul, List.take_length] at ht5
        exact ⟨tv', rfl, k _ _ (e14.trans e5) ht5⟩
end
end AbW
namespace AbW
open PySem PySem.Spec PyProof.Rows L2 AbR AB
section
variable {P : Program} {w : World} {K : PySem.W.Frag} {mg : Str → Option Value} {base : Heap}
/-! ### the law's stream -/
/-- the stream at s: the script's numbers at l, a number that is drawn from, a place -/
def StrAt (H : Hp) (s l : Addr) (ns : List Int) : Prop := l ≠ s ∧ H l = some (.lst (ns.map V.int)) ∧ ∃ (c : Int) (k : Nat), H s = some (.lst [.ref l, .int c, .int k])
theorem StrAt.same {H H' : Hp} {s l : Addr} {ns : List Int} (h : StrAt H s l ns) (e : Same H H') : StrAt H' s l ns :=
  let ⟨h1, h2, c, k, h3⟩ := h
  ⟨h1, e _ _ h2, c, k, e _ _ h3⟩
theorem StrAt.upd {H : Hp} {s l p : Addr} {ns : List Int} {o : HO} (h : StrAt H s l ns) (ps : p ≠ s) (pl : p ≠ l) : StrAt (upd H p o) s l ns := by
  obtain ⟨h1, h2, c, k, h3⟩ := h
  refine ⟨h1, ?_, c, k, ?_⟩
  · rw [upd_ne pl.symm]
    exact h2
  · rw [upd_ne ps.symm]
    exact h3
theorem StrAt.tk {H H' : Hp} {s l : Addr} {ns : List Int} (h : StrAt H s l ns) (e : SameX s H H') : Tk H H' := fun a xs ha => by
  obtain ⟨_, _, c, k, h3⟩ := h
  exact e _ _ (ne_of ha h3 fun z => nomatch z) ha
theorem SameX.refl (d : Addr) (H : Hp) : SameX d H H := fun _ _ _ h => h
theorem SameX.trans2 {d : Addr} {H H1 H2 : Hp} (a : SameX d H H1) (b : SameX d H1 H2) : SameX d H H2 := fun c o h e => b c o h (a c o h e)
abbrev s_law_stream : Stmt := topS 47
theorem sc_law_stream : FnScope ["_law_script"] ["_law_script"] (defScope s_law_stream) := ⟨rfl, rfl, rfl, by decide +kernel, rfl, by decide +kernel, by decide +kernel⟩
def spStream (K : PySem.W.Frag) : Sp := fun vs H Q _ => ∃ (a : Addr) (ns : List Int), vs = [.ref a] ∧ SqL K H a (ns.map V.int) ∧ ∀ H' s l, Same H H' → StrAt H' s l ns → Q (.ref s) H'
theorem kn_law_stream (gb : Gb mg) (D : Df K mg "_law_stream" "_law_stream" s_law_stream) : Kn P w K mg base 1 "_law_stream" ["_law_script"] (spStream K) := by
  refine kn_of D (fun _ _ _ _ _ _ us hl => match us, hl with | [_], _ => rfl) fun f fd F => F.ok sc_law_stream (fun vs H Q E h => ?_) (fun cdv A outer s H vs Q E hr h => ?_)
  · obtain ⟨a, ns, rfl, _⟩ := h
    rfl
  · obtain ⟨a, ns, rfl, hS, k⟩ := h
    refine ⟨_, (pss_one (ps_ret (pe_lst (pa_cons (pe_callTy call_list_of (by rfl) gb.list b_list (pa_cons (pv 0) pa_nil)) (pa_cons pe_int (pa_cons pe_int pa_nil)))))), ?_⟩
    refine ⟨.ref a, rfl, a, _, rfl, .inl hS, fun l hl => ⟨(show 3 ≤ sizeLine by decide), fun s hs => ?_⟩⟩
    have e1 := same_new (o := .lst (ns.map V.int)) hl
    have e2 := same_new (o := .lst [.ref l, .int 0, .int 0]) hs
    exact k _ s l (e1.trans e2) ⟨ne_of_none upd_same hs, e2 _ _ upd_same, 0, 0, upd_same⟩
/-! ### _law_next -/
abbrev s_law_next : Stmt := topS 48
theorem sc_law_next : FnScope ["_law_stream_here", "_law_many", "_law_k", "_law_cell", "_law_digit"] ["_law_stream_here", "_law_many"] (defScope s_law_next) := ⟨rfl, rfl, rfl, by decide +kernel, rfl, by decide +kernel, by decide +kernel⟩
def spNext : Sp := fun vs H Q _ => ∃ (s l : Addr) (m : Int) (ns : List Int), vs = [.ref s, .int m] ∧ StrAt H s l ns ∧ 0 < m ∧ m < 1000 ∧ ∀ H' d, SameX s H H' → StrAt H' s l ns → 0 ≤ d → d < m → Q (.int d) H'
theorem kn_law_next (gb : Gb mg) (D : Df K mg "_law_next" "_law_next" s_law_next) : Kn P w K mg base 1 "_law_next" ["_law_stream_here", "_law_many"] spNext := by
  refine kn_of D (fun _ _ _ _ _ _ us hl => match us, hl with | [_, _], _ => rfl) fun f fd F => F.ok sc_law_next (fun vs H Q E h => ?_) (fun cdv A outer s H vs Q E hr h => ?_)
  · obtain ⟨s, l, m, ns, rfl, _⟩ := h
    rfl
  · obtain ⟨s, l, m, ns, rfl, ⟨hls, hl, c, k, hs⟩, hm0, hm1, q⟩ := h
    refine ⟨_, (Evl.pss_cut (ps_if (pt_cmpR op_eq (pe_ix (ixL (K := K)) (pv 0) pe_int (fun _ _ => rfl)) pe_int (nomark _)) (pss_cons (ps_set (i := 2) sc_law_next.nd rfl (Or.inl rfl) (pe_ix (ixL (K := K)) (pv 0) pe_int (fun _ _ => rfl)))
      (pss_cons (ps_set (i := 3) sc_law_next.nd rfl (Or.inl rfl) (pe_op op_add pe_int (pv 2)))
      (Evl.pss_cut (ps_if (pt_cmpR op_lt (pv 2) (pe_callB call_len_seq (by rfl) gb.len b_len (pa_cons (pe_ix (ixL (K := K)) (pv 0) pe_int (fun _ _ => rfl)) pa_nil)) (nomark _)) (pss_one (ps_set (i := 3) sc_law_next.nd rfl (Or.inl rfl) (pe_callB call_abs (by rfl) gb.abs b_abs (pa_cons (pe_ix (ixL (K := K)) (pe_ix (ixL (K := K)) (pv 0) pe_int (fun _ _ => rfl)) (pv 2) (fun _ _ => rfl)) pa_nil)))) pss_nil)
      (Evl.pss_cut (ps_if (pt_cmpR op_lt (pv 3) (pe_op op_pow pe_int pe_int) (nomark _)) (pss_cons (ps_set (i := 3) sc_law_next.nd rfl (Or.inl rfl) (pe_op op_mod (pe_callTy call_int1 (by rfl) gb.int b_int (pa_cons (pe_op op_add (pe_op op_add (pe_op op_mul (pv 3) pe_int) (pe_op op_mul (pv 2) pe_int)) pe_int) pa_nil)) pe_int))
      (pss_one (ps_set (i := 3) sc_law_next.nd rfl (Or.inl rfl) (pe_op op_add (pe_op op_mul (pe_op op_mod (pe_callTy call_int1 (by rfl) gb.int b_int (pa_cons (pe_op op_add (pe_op op_mul (pv 3) pe_int) pe_int) pa_nil)) pe_int) pe_int) (pv 3))))) pss_nil)
      (pss_cons (ps_asg (pv 3) (pg_sub (pv 0) pe_int set_list))
      (pss_one (ps_asg (pe_op op_add (pv 2) pe_int) (pg_sub (pv 0) pe_int set_list)))))))) pss_nil)
      (pss_cons (ps_set (i := 4) sc_law_next.nd rfl (Or.inl rfl) (pe_op op_modN (pe_callTy call_int1 (by rfl) gb.int b_int (pa_cons (pe_ix (ixL (K := K)) (pv 0) pe_int (fun _ _ => rfl)) pa_nil)) (pv 1)))
      (pss_cons (ps_asg (pe_op op_fdivN (pe_ix (ixL (K := K)) (pv 0) pe_int (fun _ _ => rfl)) (pv 1)) (pg_sub (pv 0) pe_int set_list))
      (pss_one (ps_ret (pv 4)))))), ?_⟩
    refine ⟨fun σ' H' => ∃ (y2 y3 : Option V) (c : Int) (k : Nat), σ' = [some (.ref s), some (.int m), y2, y3, none] ∧ SameX s H H' ∧ H' s = some (.lst [.ref l, .int c, .int k]), ?_, fun σ' H' p => ?_⟩
    · -- the cell
      refine ⟨.ref s, rfl, s, _, 1, _, rfl, rfl, SqL.of hs, atI_nat (j := 1) rfl, rfl, _, rfl, ite2 (fun _ => ?_) fun _ => ⟨_, _, c, k, rfl, SameX.refl _ _, hs⟩⟩
      refine ⟨.ref s, rfl, s, _, 2, _, rfl, rfl, SqL.of hs, atI_nat (j := 2) rfl, .int k, rfl, 7, k, rfl, rfl, ?_⟩
      refine ⟨fun σ' H' => H' = H ∧ ∃ x : Int, σ' = [some (.ref s), some (.int m), some (.int k), some (.int x), none], ?_, fun σ' H' p => ?_⟩
      · refine ⟨.int k, rfl, .ref s, rfl, s, _, 0, _, rfl, rfl, SqL.of hs, atI_nat (j := 0) rfl, l, _, rfl, .inl (SqL.of hl), k, _, rfl, rfl, _, rfl, ite2 (fun lt => ?_) fun _ => ⟨rfl, _, rfl⟩⟩
        have hk : k < ns.length := by
          have h := of_decide_eq_true lt
          rw [List.length_map] at h
          omega
        exact ⟨.ref s, rfl, s, _, 0, _, rfl, rfl, SqL.of hs, atI_nat (j := 0) rfl, .int k, rfl, l, _, k, _, rfl, rfl, SqL.of hl, at_int hk, _, rfl, rfl, _, rfl⟩
      · obtain ⟨rfl, x, rfl⟩ := p
        refine ⟨fun σ' H'' => H'' = H' ∧ ∃ x : Int, σ' = [some (.ref s), some (.int m), some (.int k), some (.int x), none], ?_, fun σ' H'' p => ?_⟩
        · refine ⟨.int x, rfl, 10, 18, rfl, rfl, ⟨by decide, by decide, by decide⟩, x, _, rfl, rfl, _, rfl, ite2 (fun _ => ?_) fun _ => ⟨rfl, _, rfl⟩⟩
          refine ⟨.int x, rfl, x, 48271, rfl, rfl, .inr ⟨by decide, by decide⟩, .int k, rfl, k, 69621, rfl, rfl, .inr ⟨by decide, by decide⟩, _, _, rfl, rfl, _, 11, rfl, rfl, .inl ⟨_, rfl, _, 2147483647, rfl, rfl, (show (0 : Int) < 2147483647 by decide), ?_⟩⟩
          exact ⟨_, rfl, _, 16807, rfl, rfl, .inr ⟨by decide, by decide⟩, _, 13, rfl, rfl, .inl ⟨_, rfl, _, 2147483647, rfl, rfl, (show (0 : Int) < 2147483647 by decide), _, 65537, rfl, rfl, .inr ⟨by decide, by decide⟩, _, rfl, _, _, rfl, rfl, rfl, _, rfl⟩⟩
        · obtain ⟨rfl, z, rfl⟩ := p
          refine ⟨.int z, rfl, .ref s, rfl, s, _, 1, 1, rfl, rfl, hs, rfl, ?_⟩
          refine ⟨.int k, rfl, k, 1, rfl, rfl, .ref s, rfl, s, _, 2, 2, rfl, rfl, upd_same, rfl, _, _, z, k + 1, rfl, ?_, ?_⟩
          · rw [upd_upd]
            exact sameX_upd
          · rw [upd_same]
            show some (HO.lst [.ref l, .int z, .int ((k : Int) + 1)]) = some (HO.lst [.ref l, .int z, .int ((k + 1 : Nat) : Int)])
            rw [Int.natCast_add]
            rfl
    · -- the digit
      obtain ⟨y2, y3, c, k, rfl, e1, hs1⟩ := p
      refine ⟨.ref s, rfl, s, _, 1, _, rfl, rfl, SqL.of hs1, atI_nat (j := 1) rfl, .inl ⟨c, rfl, .int m, rfl, c, m, rfl, rfl, (show m ≠ 0 by omega), ?_⟩⟩
      refine ⟨.ref s, rfl, s, _, 1, _, rfl, rfl, SqL.of hs1, atI_nat (j := 1) rfl, .int m, rfl, c, m, rfl, rfl, ⟨by omega, by omega⟩, .ref s, rfl, s, _, 1, 1, rfl, rfl, hs1, rfl, ?_⟩
      refine ⟨.int (c.fmod m), rfl, q _ _ (e1.trans2 sameX_upd) ⟨hls, ?_, c.fdiv m, k, upd_same⟩ (Int.fmod_nonneg_of_pos c hm0) (Int.fmod_lt_of_pos c hm0)⟩
      rw [upd_ne hls]
      exact e1 _ _ hls hl
end
end AbW
namespace AbW
open PySem PySem.Spec PyProof.Rows L2 AbR AB
section
variable {P : Program} {w : World} {K : PySem.W.Frag} {mg : Str → Option Value} {base : Heap}
/-! ### _law_net -/
abbrev s_law_net : Stmt := topS 58
theorem sc_law_net : FnScope ["_law_stream_here", "_law_least", "_law_sizes", "_law_size", "_law_times", "_law_rules", "_law_k", "_law_start", "_law_end", "_law_gap", "_law_low", "_law_high", "_law_pick", "_law_event"] ["_law_stream_here", "_law_least", "_law_sizes"] (defScope s_law_net) := ⟨rfl, rfl, rfl, by decide +kernel, rfl, by decide +kernel, by decide +kernel⟩
/-- what the law's net and times are -/
structure Drawn (n : Nat) (rs : List Rule) (t : List Int) : Prop where
  size : n = 3 ∨ n = 4
  few : rs.length ≤ 5
  ok : ∀ r ∈ rs, RuleOk n r
  len : t.length = n
  small : ∀ x ∈ t, -6 ≤ x ∧ x ≤ 6
  kept : Kept t rs
def spLawNet : Sp := fun vs H Q _ => ∃ (s l : Addr) (ns : List Int), vs = [.ref s, .int 3, .int 2] ∧ StrAt H s l ns ∧
  ∀ H' p nv tv n rs t, SameX s H H' → StrAt H' s l ns → H' p = some (.lst [nv, tv]) → NetAt H' nv n rs → IntsAt H' tv t → Drawn n rs t → Q (.ref p) H'
theorem tt_mem {t : List Int} {i : Nat} (h : i < t.length) : tt t i ∈ t := by
  show t.getD i 0 ∈ t
  rw [List.getD_eq_getElem?_getD, List.getElem?_eq_getElem h]
  exact List.getElem_mem h
theorem kn_law_net (gb : Gb mg) (k_law_next : Kn P w K mg base 1 "_law_next" ["_law_stream_here", "_law_many"] spNext) (D : Df K mg "_law_net" "_law_net" s_law_net) : Kn P w K mg base 2 "_law_net" ["_law_stream_here", "_law_least", "_law_sizes"] spLawNet := by
  refine kn_of D (fun _ _ _ _ _ _ us hl => match us, hl with | [_, _, _], _ => rfl) fun f fd F => F.ok sc_law_net (fun vs H Q E h => ?_) (fun cdv A outer s H vs Q E hr h => ?_)
  · obtain ⟨s, l, ns, rfl, _⟩ := h
    rfl
  · obtain ⟨s, l, ns, rfl, hst, k⟩ := h
    refine ⟨_, (pss_cons (ps_set (i := 3) sc_law_net.nd rfl (Or.inl rfl) (pe_op op_add (pv 1) (pe_kn k_law_next (hr.mono (by decide)) (by rfl) (pa_cons (pv 0) (pa_cons (pv 2) pa_nil)))))
      (pss_cons (ps_set (i := 4) sc_law_net.nd rfl (Or.inl rfl) (pe_callTy call_tuple_of (by rfl) gb.tuple b_tuple (pa_cons (pe_lc (own := [("_law_event", 13)]) (by rfl) sc_law_net.nd (pi_range1 (by rfl) gb.range (pa_cons (pv 3) pa_nil)) (blkOk_by (own := [("_law_event", 13)]) (N := ["_law_stream_here", "_law_least", "_law_sizes", "_law_size", "_law_times", "_law_rules", "_law_k", "_law_start", "_law_end", "_law_gap", "_law_low", "_law_high", "_law_pick", "_law_event"]) (sc := (defScope s_law_net)) (by decide +kernel)) (fun _ _ _ _ _ => (pg_name (i := 13) sc_law_net.nd rfl (by first | exact Or.inl rfl | exact Or.inr rfl))) (fun _ _ _ _ _ => pts_nil) (fun _ _ _ _ _ => (pe_op op_sub (pe_kn k_law_next (hr.mono (by decide)) (by rfl) (pa_cons (pv 0) (pa_cons pe_int pa_nil))) pe_int))) pa_nil)))
      (pss_cons (ps_set (i := 5) sc_law_net.nd rfl (Or.inl rfl) (pe_lst pa_nil))
      (pss_cons (ps_for PassesOwn.never rfl (pi_range1 (by rfl) gb.range (pa_cons (pe_kn k_law_next (hr.mono (by decide)) (by rfl) (pa_cons (pv 0) (pa_cons pe_int pa_nil))) pa_nil)) (pg_name (i := 6) sc_law_net.nd rfl (Or.inl rfl)) (pss_cons (ps_set (i := 7) sc_law_net.nd rfl (Or.inl rfl) (pe_kn k_law_next (hr.mono (by decide)) (by rfl) (pa_cons (pv 0) (pa_cons (pv 3) pa_nil))))
      (pss_cons (ps_set (i := 8) sc_law_net.nd rfl (Or.inl rfl) (pe_kn k_law_next (hr.mono (by decide)) (by rfl) (pa_cons (pv 0) (pa_cons (pv 3) pa_nil))))
      (pss_cons (ps_set (i := 9) sc_law_net.nd rfl (Or.inl rfl) (pe_op op_sub (pe_ix (ixT (K := K)) (pv 4) (pv 8) (fun _ _ => rfl)) (pe_ix (ixT (K := K)) (pv 4) (pv 7) (fun _ _ => rfl))))
      (pss_cons (ps_set (i := 10) sc_law_net.nd rfl (Or.inl rfl) (pe_op op_sub (pv 9) (pe_kn k_law_next (hr.mono (by decide)) (by rfl) (pa_cons (pv 0) (pa_cons pe_int pa_nil)))))
      (pss_cons (ps_set (i := 11) sc_law_net.nd rfl (Or.inl rfl) (pe_op op_add (pv 9) (pe_kn k_law_next (hr.mono (by decide)) (by rfl) (pa_cons (pv 0) (pa_cons pe_int pa_nil)))))
      (pss_cons (ps_set (i := 12) sc_law_net.nd rfl (Or.inl rfl) (pe_kn k_law_next (hr.mono (by decide)) (by rfl) (pa_cons (pv 0) (pa_cons pe_int pa_nil))))
      (Evl.pss_cut (ps_if (pt_cmpR op_eq (pv 12) pe_int (nomark _)) (pss_one (ps_set (i := 10) sc_law_net.nd rfl (Or.inl rfl) pe_non)) pss_nil)
      (Evl.pss_cut (ps_if (pt_cmpR op_eq (pv 12) pe_int (nomark _)) (pss_one (ps_set (i := 11) sc_law_net.nd rfl (Or.inl rfl) pe_non)) pss_nil)
      (pss_one (ps_if (pt_cmpR op_ne (pv 7) (pv 8) (nomark _)) (pss_one (ps_expr (pe_bm PySem.F.plainAttrs_list PySem.F.slot_list_append PySem.F.type_list_append mt_append (pv 5) (pa_cons (pe_tup (pa_cons (pv 7) (pa_cons (pv 8) (pa_cons (pv 10) (pa_cons (pv 11) pa_nil))))) pa_nil)))) pss_nil)))))))))))
      (pss_one (ps_ret (pe_lst (pa_cons (pe_tup (pa_cons (pv 3) (pa_cons (pe_callTy call_tuple_of (by rfl) gb.tuple b_tuple (pa_cons (pv 5) pa_nil)) pa_nil))) (pa_cons (pv 4) pa_nil))))))))), ?_⟩
    have old : ∀ {H' : Hp}, StrAt H' s l ns → (∃ o, H' s = some o) ∧ ∃ o, H' l = some o := fun {H'} h => let ⟨_, h2, _, _, h3⟩ := h; ⟨⟨_, h3⟩, _, h2⟩
    -- the size
    refine ⟨.int 3, rfl, .ref s, rfl, .int 2, rfl, s, l, 2, ns, rfl, hst, by decide, by decide, fun H1 d e1 h1 d0 d1 => ⟨3, d, rfl, rfl, ?_⟩⟩
    obtain ⟨n, hn⟩ : ∃ n : Nat, (3 : Int) + d = (n : Int) := ⟨(3 + d).toNat, by omega⟩
    have hsz : n = 3 ∨ n = 4 := by omega
    have hd : d = (n : Int) - 3 := by omega
    subst hd
    have e3n : (3 : Int) + ((n : Int) - 3) = n := by omega
    -- the times
    refine ⟨.int (3 + ((n : Int) - 3)), rfl, _, rfl, by omega, by omega, fun Dl hDl => ?_⟩
    rw [e3n]
    have hls : Dl ≠ s := let ⟨⟨o, h⟩, _⟩ := old h1; (ne_of_none h hDl).symm
    have hll : Dl ≠ l := let ⟨_, o, h⟩ := old h1; (ne_of_none h hDl).symm
    refine lc_it walk_range (fun i H2 => SameX s H1 H2 ∧ StrAt H2 s l ns ∧ ∃ t : List Int, t.length = i ∧ (∀ x ∈ t, -6 ≤ x ∧ x ≤ 6) ∧ H2 Dl = some (.lst (t.map V.int)))
      ⟨fun b o ne h => same_new hDl b o h, h1.upd hls hll, [], rfl, (fun x hx => absurd hx List.not_mem_nil), upd_same⟩ (fun _ _ _ _ => trivial) (fun i x H2 H3 hi p hx => ?_) (fun H2 p => ?_)
    · obtain ⟨e2, h2, t, ht, hts, hD⟩ := p
      obtain ⟨rfl, rfl⟩ := hx
      have hi' : i < n := hi
      refine ⟨rfl, .ref s, rfl, s, l, 13, ns, rfl, h2, by decide, by decide, fun H4 d4 e4 h4 d40 d41 => ⟨d4, 6, rfl, rfl, t.map V.int, e4 _ _ hls hD, small5 ?_, ?_, h4.upd hls hll, t ++ [d4 - 6], ?_, ?_, ?_⟩⟩
      · rw [List.length_map]
        omega
      · exact fun b o ne hb => by
          rw [upd_ne (ne_of_none hb hDl)]
          exact e4 _ _ ne (e2 _ _ ne hb)
      · rw [List.length_append, ht]
        rfl
      · intro y hy
        rcases List.mem_append.mp hy with z | z
        · exact hts y z
        · have z := List.mem_singleton.mp z
          omega
      · rw [upd_same, List.map_append]
        rfl
    · obtain ⟨e2, h2, t, ht, hts, hD⟩ := p
      have ht : t.length = n := ht
      refine ⟨Dl, _, rfl, .inl ⟨SqL.of hD, fun tp htp => ?_⟩⟩
      have eT := same_new (o := .tup (t.map V.int)) htp
      have h2 := h2.same eT
      have e12 : SameX s H (upd H2 tp (.tup (t.map V.int))) := (e1.trans2 e2).trans eT
      generalize hU : upd H2 tp (.tup (t.map V.int)) = H3 at eT h2 e12
      have hT3 : H3 tp = some (.tup (t.map V.int)) := by rw [← hU]; exact upd_same
      -- the rules
      refine ⟨Nat.zero_le _, fun rl hrl => ?_⟩
      have hrs : rl ≠ s := let ⟨⟨o, h⟩, _⟩ := old h2; (ne_of_none h hrl).symm
      have hrL : rl ≠ l := let ⟨_, o, h⟩ := old h2; (ne_of_none h hrl).symm
      have eR := same_new (o := .lst []) hrl
      have hnew : H rl = none := by
        cases q : H rl with
        | none => rfl
        | some o =>
          rw [e12 _ _ hrs q] at hrl
          cases hrl
      refine ⟨.ref s, rfl, s, l, 6, ns, rfl, h2.same eR, by decide, by decide, fun H5 cnt e5 h5 c0 c1 => ⟨cnt, rfl, by omega, by omega, ?_⟩⟩
      refine for_it walk_range (fun i σ H6 => ∃ y6 y7 y8 y9 y10 y11 y12 y13, σ = [some (.ref s), some (.int 3), some (.int 2), some (.int (3 + ((n : Int) - 3))), some (.ref tp), some (.ref rl), y6, y7, y8, y9, y10, y11, y12, y13] ∧ SameX s H H6 ∧ StrAt H6 s l ns ∧
          H6 tp = some (.tup (t.map V.int)) ∧ ∃ us rs, H6 rl = some (.lst us) ∧ Paired (RuleAt H6) us rs ∧ rs.length ≤ i ∧ (∀ r ∈ rs, RuleOk n r) ∧ Kept t rs)
        ⟨_, _, _, _, _, _, _, _, rfl, (e12.trans eR).trans2 e5, h5, (h2.same eR).tk e5 _ _ (eR _ _ hT3), [], [], e5 _ _ hrs upd_same, .nil, Nat.zero_le _, (fun r hr => absurd hr List.not_mem_nil), fun r hr => absurd hr List.not_mem_nil⟩
        (fun _ _ _ _ _ => trivial) (fun i x σ H6 H7 hi p hx => ?_) (fun σ H6 p => ?_)
      · obtain ⟨y6, y7, y8, y9, y10, y11, y12, y13, rfl, e6, h6, hT6, us, rs, hR6, hp6, hle, hok, hkept⟩ := p
        obtain ⟨rfl, rfl⟩ := hx
        have hi' : i < cnt.toNat := hi
        -- start, end
        refine ⟨.ref s, rfl, .int (3 + ((n : Int) - 3)), rfl, s, l, _, ns, rfl, h6, by omega, by omega, fun HA da eA hA da0 da1 => ?_⟩
        refine ⟨.ref s, rfl, .int (3 + ((n : Int) - 3)), rfl, s, l, _, ns, rfl, hA, by omega, by omega, fun HB db eB hB db0 db1 => ?_⟩
        obtain ⟨a, rfl⟩ := Int.eq_ofNat_of_zero_le da0
        obtain ⟨b, rfl⟩ := Int.eq_ofNat_of_zero_le db0
        have ha : a < n := by omega
        have hb : b < n := by omega
        have tkB := (h6.tk eA).trans (hA.tk eB)
        have hTB := tkB _ _ hT6
        -- the gap
        refine ⟨.ref tp, rfl, .int b, rfl, tp, _, b, _, rfl, rfl, SqT.of hTB, at_int (by omega), .ref tp, rfl, .int a, rfl, tp, _, a, _, rfl, rfl, SqT.of hTB, at_int (by omega), _, _, rfl, rfl, ?_⟩
        have ga := hts _ (tt_mem (t := t) (i := a) (by omega))
        have gb' := hts _ (tt_mem (t := t) (i := b) (by omega))
        -- low, high, pick
        refine ⟨_, rfl, .ref s, rfl, s, l, 4, ns, rfl, hB, by decide, by decide, fun HC dc eC hC dc0 dc1 => ⟨_, dc, rfl, rfl, ?_⟩⟩
        refine ⟨_, rfl, .ref s, rfl, s, l, 4, ns, rfl, hC, by decide, by decide, fun HD dd eD hD dd0 dd1 => ⟨_, dd, rfl, rfl, ?_⟩⟩
        refine ⟨.ref s, rfl, s, l, 4, ns, rfl, hD, by decide, by decide, fun HE pk eE hE pk0 pk1 => ?_⟩
        have eAll : SameX s H7 HE := (((eA.trans2 eB).trans2 eC).trans2 eD).trans2 eE
        have tkE := h6.tk eAll
        -- low = None, high = None
        refine ⟨fun σ' H' => H' = HE ∧ ∃ lo : Option Int, σ' = [some (.ref s), some (.int 3), some (.int 2), some (.int (3 + ((n : Int) - 3))), some (.ref tp), some (.ref rl), some (.int (0 + (i : Nat))), some (.int a), some (.int b), some (.int (tt t b - tt t a)), some (optV lo), some (.int (tt t b - tt t a + dd)), some (.int pk), y13] ∧
            (lo = none → pk = 0) ∧ ∀ z, lo = some z → z = tt t b - tt t a - dc, ?_, fun σ' H' p => ?_⟩
        · refine ⟨.int pk, rfl, rfl, _, rfl, ite2 (fun z => ?_) fun z => ?_⟩
          · exact ⟨rfl, none, rfl, fun _ => V.int.inj (of_decide_eq_true z), fun _ z => nomatch z⟩
          · exact ⟨rfl, some (tt t b - tt t a - dc), rfl, (fun z => nomatch z), fun y z => (Option.some.inj z).symm⟩
        obtain ⟨rfl, lo, rfl, lo1, lo2⟩ := p
        refine ⟨fun σ' H'' => H'' = H' ∧ ∃ hi : Option Int, σ' = [some (.ref s), some (.int 3), some (.int 2), some (.int (3 + ((n : Int) - 3))), some (.ref tp), some (.ref rl), some (.int (0 + (i : Nat))), some (.int a), some (.int b), some (.int (tt t b - tt t a)), some (optV lo), some (optV hi), some (.int pk), y13] ∧
            (hi = none → pk = 1) ∧ ∀ z, hi = some z → z = tt t b - tt t a + dd, ?_, fun σ' H'' p => ?_⟩
        · refine ⟨.int pk, rfl, rfl, _, rfl, ite2 (fun z => ?_) fun z => ?_⟩
          · exact ⟨rfl, none, rfl, fun _ => V.int.inj (of_decide_eq_true z), fun _ z => nomatch z⟩
          · exact ⟨rfl, some (tt t b - tt t a + dd), rfl, (fun z => nomatch z), fun y z => (Option.some.inj z).symm⟩
        obtain ⟨rfl, hi2, rfl, hi3, hi4⟩ := p
        have hRE := eAll _ _ hrs hR6
        have hpE : Paired (RuleAt H'') us rs := pairedMono (fun _ _ z => RuleAt.mono tkE z) hp6
        have hul : us.length = rs.length := Paired.length hp6
        refine ⟨.int a, rfl, .int b, rfl, rfl, _, rfl, ?_⟩
        rw [int_dec]
        by_cases hab : a = b
        · rw [decide_eq_true hab]
          exact ⟨_, _, _, _, _, _, _, _, rfl, e6.trans2 eAll, hE, tkE _ _ hT6, us, rs, hRE, hpE, by omega, hok, hkept⟩
        · rw [decide_eq_false hab]
          refine ⟨.ref rl, rfl, .inl ⟨rfl, _, SqL.of hRE⟩, .int a, rfl, .int b, rfl, optV lo, rfl, optV hi2, rfl, (show 4 ≤ sizeLine by decide), fun pr hpr => ?_⟩
          have eP := same_new (o := .tup [.int a, .int b, optV lo, optV hi2]) hpr
          have hRP := eP _ _ hRE
          refine ⟨rl, us, .ref pr, rfl, rfl, hRP, small5 (by omega), _, _, _, _, _, _, _, _, rfl, ?_, ?_, ?_, us ++ [.ref pr], rs ++ [⟨a, b, lo, hi2⟩], upd_same, ?_, ?_, ?_, ?_⟩
          · exact ((e6.trans2 eAll).trans eP).mut hnew
          · exact (hE.same eP).upd hrs hrL
          · rw [upd_ne (ne_of (eP _ _ (tkE _ _ hT6)) hRP fun z => nomatch z)]
            exact eP _ _ (tkE _ _ hT6)
          · have tkU : Tk (upd H'' pr (.tup [.int a, .int b, optV lo, optV hi2])) (upd (upd H'' pr (.tup [.int a, .int b, optV lo, optV hi2])) rl (.lst (us ++ [.ref pr]))) := tk_upd fun xs z => by rw [hRP] at z; cases z
            exact pairedSnoc ⟨pr, rfl, tkU _ _ upd_same⟩ (pairedMono (fun _ _ z => RuleAt.mono ((tk_of eP).trans tkU) z) hpE)
          · rw [List.length_append, List.length_singleton]
            omega
          · intro r hr
            rcases List.mem_append.mp hr with z | z
            · exact hok r z
            · have z := List.mem_singleton.mp z
              subst z
              refine ⟨ha, hb, hab, fun z hz => ?_, fun z hz => ?_, ?_⟩
              · have := lo2 z hz
                omega
              · have := hi4 z hz
                omega
              · by_cases hlo : lo = none
                · refine .inr fun hh => ?_
                  have q1 := lo1 hlo
                  have q2 := hi3 hh
                  omega
                · exact .inl hlo
          · intro r hr
            rcases List.mem_append.mp hr with z | z
            · exact hkept r z
            · have z := List.mem_singleton.mp z
              subst z
              refine ⟨fun z hz => ?_, fun z hz => ?_⟩
              · have := lo2 z hz
                show z ≤ tt t b - tt t a
                omega
              · have := hi4 z hz
                show tt t b - tt t a ≤ z
                omega
      · obtain ⟨y6, y7, y8, y9, y10, y11, y12, y13, rfl, e6, h6, hT6, us, rs, hR6, hp6, hle, hok, hkept⟩ := p
        have hle : rs.length ≤ cnt.toNat := hle
        refine ⟨_, rfl, .ref rl, rfl, rl, us, rfl, .inl ⟨SqL.of hR6, fun p1 hp1 => ⟨(show 2 ≤ sizeLine by decide), fun p2 hp2 => ⟨.ref tp, rfl, (show 2 ≤ sizeLine by decide), fun p3 hp3 => ?_⟩⟩⟩⟩
        rw [e3n] at hp3 ⊢
        have eA := same_new (o := .tup us) hp1
        have eB := same_new (o := .tup [.int n, .ref p1]) hp2
        have eC := same_new (o := .lst [.ref p2, .ref tp]) hp3
        have eBC := eB.trans eC
        have eAll := eA.trans eBC
        refine k _ p3 (.ref p2) (.ref tp) n rs t (e6.trans eAll) (h6.same eAll) upd_same ⟨p2, p1, us, rfl, eC _ _ upd_same, eBC _ _ upd_same, pairedMono (fun _ _ z => RuleAt.mono (tk_of eAll) z) hp6⟩ ⟨tp, rfl, eAll _ _ hT6⟩ ⟨hsz, by omega, hok, ht, hts, hkept⟩
end
end AbW
namespace AbW
open PySem PySem.Spec PyProof.Rows L2 AbR AB
section
variable {P : Program} {w : World} {K : PySem.W.Frag} {mg : Str → Option Value} {base : Heap}
/-! ### _law_apart -/
/-- the raising one of two steps, the lowering one -/
def hiS (a b : Stp) : Stp := if a.up = true then a else b
def loS (a b : Stp) : Stp := if a.up = true then b else a
def sameS (a b : Stp) : Bool := decide ((hiS a b).ev = (loS a b).ev)
def bndS (a b : Stp) : Int := (hiS a b).tm - (loS a b).tm - 1
abbrev s_law_apart : Stmt := topS 61
theorem sc_law_apart : FnScope ["_law_one", "_law_other", "_law_high", "_law_low", "_law_bound", "_law_net_here"] ["_law_one", "_law_other"] (defScope s_law_apart) := ⟨rfl, rfl, rfl, by decide +kernel, rfl, by decide +kernel, by decide +kernel⟩
def spApart : Sp := fun vs H Q _ => ∃ (v u : V) (a b : Stp), vs = [v, u] ∧ StpAt H v a ∧ StpAt H u b ∧ a.up ≠ b.up ∧ ∀ H' p mv tv hv lv, Same H H' → H' p = some (.lst [mv, tv, hv, lv]) →
  NetAt H' mv (apSize (sameS a b)) (apRules (sameS a b) (bndS a b)) → IntsAt H' tv (apTimes (sameS a b) (bndS a b)) → StpAt H' hv ⟨true, 0, (hiS a b).tm⟩ → StpAt H' lv ⟨false, apLowEv (sameS a b), (loS a b).tm⟩ → Q (.ref p) H'
theorem kn_law_apart (D : Df K mg "_law_apart" "_law_apart" s_law_apart) : Kn P w K mg base 1 "_law_apart" ["_law_one", "_law_other"] spApart := by
  refine kn_of D (fun _ _ _ _ _ _ us hl => match us, hl with | [_, _], _ => rfl) fun f fd F => F.ok sc_law_apart (fun vs H Q E h => ?_) (fun cdv A outer s H vs Q E hr h => ?_)
  · obtain ⟨v, u, a, b, rfl, _⟩ := h
    rfl
  · obtain ⟨v, u, a, b, rfl, hv, hu, hab, k⟩ := h
    refine ⟨_, (pss_cons (ps_asg (pe_slice sl_list (pe_lst (pa_cons (pv 0) (pa_cons (pv 1) pa_nil))) po_none (po_some pe_int)) (pg_unl (by rfl) (pgs_cons (pg_name (i := 2) sc_law_apart.nd rfl (Or.inl rfl)) (pgs_cons (pg_name (i := 3) sc_law_apart.nd rfl (Or.inl rfl)) pgs_nil))))
      (Evl.pss_cut (ps_if (pt_cmpR op_eq (pe_ix (ixT (K := K)) (pv 0) pe_int (fun _ _ => rfl)) pe_str (nomark _)) (pss_one (ps_asg (pe_lst (pa_cons (pv 1) (pa_cons (pv 0) pa_nil))) (pg_unl (by rfl) (pgs_cons (pg_name (i := 2) sc_law_apart.nd rfl (Or.inl rfl)) (pgs_cons (pg_name (i := 3) sc_law_apart.nd rfl (Or.inl rfl)) pgs_nil))))) pss_nil)
      (pss_cons (ps_set (i := 4) sc_law_apart.nd rfl (Or.inl rfl) (pe_op op_sub (pe_op op_sub (pe_ix (ixT (K := K)) (pv 2) pe_int (fun _ _ => rfl)) (pe_ix (ixT (K := K)) (pv 3) pe_int (fun _ _ => rfl))) pe_int))
      (pss_cons (ps_if (pt_cmpR op_eq (pe_ix (ixT (K := K)) (pv 2) pe_int (fun _ _ => rfl)) (pe_ix (ixT (K := K)) (pv 3) pe_int (fun _ _ => rfl)) (nomark _)) (pss_one (ps_ret (pe_lst (pa_cons (pe_tup (pa_cons pe_int (pa_cons (pe_tup (pa_cons (pe_tup (pa_cons pe_int (pa_cons pe_int (pa_cons pe_non (pa_cons pe_int pa_nil))))) (pa_cons (pe_tup (pa_cons pe_int (pa_cons pe_int (pa_cons pe_non (pa_cons (pv 4) pa_nil))))) pa_nil))) pa_nil))) (pa_cons (pe_tup (pa_cons pe_int (pa_cons pe_int pa_nil))) (pa_cons (pe_tup (pa_cons (pe_ix (ixT (K := K)) (pv 2) pe_int (fun _ _ => rfl)) (pa_cons pe_int (pa_cons (pe_ix (ixT (K := K)) (pv 2) pe_int (fun _ _ => rfl)) pa_nil)))) (pa_cons (pe_tup (pa_cons (pe_ix (ixT (K := K)) (pv 3) pe_int (fun _ _ => rfl)) (pa_cons pe_int (pa_cons (pe_ix (ixT (K := K)) (pv 3) pe_int (fun _ _ => rfl)) pa_nil)))) pa_nil))))))) pss_nil)
      (pss_cons (ps_set (i := 5) sc_law_apart.nd rfl (Or.inl rfl) (pe_tup (pa_cons pe_int (pa_cons (pe_tup (pa_cons (pe_tup (pa_cons pe_int (pa_cons pe_int (pa_cons pe_non (pa_cons pe_int pa_nil))))) (pa_cons (pe_tup (pa_cons pe_int (pa_cons pe_int (pa_cons pe_non (pa_cons (pv 4) pa_nil))))) pa_nil))) pa_nil))))
      (pss_one (ps_ret (pe_lst (pa_cons (pv 5) (pa_cons (pe_tup (pa_cons pe_int (pa_cons (pe_op op_sub pe_int (pv 4)) (pa_cons pe_int pa_nil)))) (pa_cons (pe_tup (pa_cons (pe_ix (ixT (K := K)) (pv 2) pe_int (fun _ _ => rfl)) (pa_cons pe_int (pa_cons (pe_ix (ixT (K := K)) (pv 2) pe_int (fun _ _ => rfl)) pa_nil)))) (pa_cons (pe_tup (pa_cons (pe_ix (ixT (K := K)) (pv 3) pe_int (fun _ _ => rfl)) (pa_cons pe_int (pa_cons (pe_ix (ixT (K := K)) (pv 3) pe_int (fun _ _ => rfl)) pa_nil)))) pa_nil)))))))))))), ?_⟩
    have hup : (hiS a b).up = true := by
      unfold hiS
      cases ha : a.up with
      | true => exact ha
      | false =>
        cases hb : b.up with
        | true => exact hb
        | false => exact absurd (ha.trans hb.symm) hab
    have hdown : (loS a b).up = false := by
      unfold loS
      cases ha : a.up with
      | false => exact ha
      | true =>
        cases hb : b.up with
        | false => exact hb
        | true => exact absurd (ha.trans hb.symm) hab
    refine ⟨v, rfl, u, rfl, (show 2 ≤ sizeLine by decide), fun p1 hp1 => ⟨2, rfl, p1, _, rfl, SqL.of upd_same, fun p2 hp2 => ?_⟩⟩
    have e1 := same_new (o := .lst [v, u]) hp1
    have e2 := same_new (o := .lst (cutV [v, u] none (some 2))) hp2
    have e12 := e1.trans e2
    refine ⟨p2, _, rfl, SqL.of upd_same, rfl, _, _, rfl, _, _, rfl, rfl, ?_⟩
    generalize hU : upd (upd H p1 (.lst [v, u])) p2 (.lst (cutV [v, u] none (some 2))) = H1 at e12
    obtain ⟨va, rfl, hva⟩ := hv.mono (tk_of e12)
    obtain ⟨ua, rfl, hua⟩ := hu.mono (tk_of e12)
    refine ⟨fun σ' H' => Same H H' ∧ ∃ h l : Addr, σ' = [some (.ref va), some (.ref ua), some (.ref h), some (.ref l), none, none] ∧ H' h = some (.tup [.str (kindS true), .int (hiS a b).ev, .int (hiS a b).tm]) ∧ H' l = some (.tup [.str (kindS false), .int (loS a b).ev, .int (loS a b).tm]), ?_, fun σ' H' p => ?_⟩
    · refine ⟨.ref va, rfl, va, _, 0, _, rfl, rfl, SqT.of hva, atI_nat (j := 0) rfl, rfl, _, rfl, ?_⟩
      rw [kind_lower]
      cases ha : a.up with
      | true =>
        have hbu : b.up = false := by
          cases hb : b.up with
          | false => rfl
          | true => exact absurd (ha.trans hb.symm) hab
        rw [ha] at hva
        rw [hbu] at hua
        refine iteF ⟨e12, va, ua, rfl, ?_, ?_⟩
        · rw [show hiS a b = a from if_pos ha]
          exact hva
        · rw [show loS a b = b from if_pos ha]
          exact hua
      | false =>
        have hbu : b.up = true := by
          cases hb : b.up with
          | true => rfl
          | false => exact absurd (ha.trans hb.symm) hab
        rw [ha] at hva
        rw [hbu] at hua
        have han : ¬ a.up = true := by rw [ha]; exact Bool.false_ne_true
        refine iteT ⟨.ref ua, rfl, .ref va, rfl, (show 2 ≤ sizeLine by decide), fun p3 hp3 => ?_⟩
        have e3 := same_new (o := .lst [.ref ua, .ref va]) hp3
        refine ⟨p3, _, rfl, SqL.of upd_same, rfl, _, _, rfl, _, _, rfl, rfl, e12.trans e3, ua, va, rfl, ?_, ?_⟩
        · rw [show hiS a b = b from if_neg han]
          exact e3 _ _ hua
        · rw [show loS a b = a from if_neg han]
          exact e3 _ _ hva
    · obtain ⟨eH, h, l, rfl, hh, hl⟩ := p
      generalize hHI : hiS a b = hi at hh
      generalize hLO : loS a b = lo at hl
      have hbd : bndS a b = hi.tm - lo.tm - 1 := by
        unfold bndS
        rw [hHI, hLO]
      have hsm : sameS a b = decide (hi.ev = lo.ev) := by
        unfold sameS
        rw [hHI, hLO]
      rw [hHI, hLO] at k
      rw [hbd, hsm] at k
      -- bound
      refine ⟨.ref h, rfl, h, _, 2, _, rfl, rfl, SqT.of hh, atI_nat (j := 2) rfl, .ref l, rfl, l, _, 2, _, rfl, rfl, SqT.of hl, atI_nat (j := 2) rfl, _, _, rfl, rfl, _, 1, rfl, rfl, ?_⟩
      refine ⟨.ref h, rfl, h, _, 1, _, rfl, rfl, SqT.of hh, atI_nat (j := 1) rfl, .ref l, rfl, l, _, 1, _, rfl, rfl, SqT.of hl, atI_nat (j := 1) rfl, rfl, _, rfl, ?_⟩
      rw [int_dec]
      cases hev : decide (hi.ev = lo.ev) with
      | true =>
        rw [hev] at k
        -- one event
        refine iteT ⟨(show 4 ≤ sizeLine by decide), fun r1 hr1 => ⟨_, rfl, (show 4 ≤ sizeLine by decide), fun r2 hr2 => ⟨(show 2 ≤ sizeLine by decide), fun r3 hr3 => ⟨(show 2 ≤ sizeLine by decide), fun r4 hr4 => ⟨(show 2 ≤ sizeLine by decide), fun r5 hr5 => ?_⟩⟩⟩⟩⟩
        have f1 := same_new (o := .tup [.int 1, .int 0, .non, .int 0]) hr1
        have f2 := same_new (o := .tup [.int 0, .int 1, .non, .int (hi.tm - lo.tm - 1)]) hr2
        have f3 := same_new (o := .tup [.ref r1, .ref r2]) hr3
        have f4 := same_new (o := .tup [.int 2, .ref r3]) hr4
        have f5 := same_new (o := .tup [.int 0, .int 0]) hr5
        have fA := ((f1.trans f2).trans f3).trans (f4.trans f5)
        refine ⟨.ref h, rfl, h, _, 0, _, rfl, rfl, SqT.of (fA _ _ hh), atI_nat (j := 0) rfl, .ref h, rfl, h, _, 2, _, rfl, rfl, SqT.of (fA _ _ hh), atI_nat (j := 2) rfl, (show 3 ≤ sizeLine by decide), fun r6 hr6 => ?_⟩
        have f6 := same_new (o := .tup [.str (kindS true), .int 0, .int hi.tm]) hr6
        refine ⟨.ref l, rfl, l, _, 0, _, rfl, rfl, SqT.of (f6 _ _ (fA _ _ hl)), atI_nat (j := 0) rfl, .ref l, rfl, l, _, 2, _, rfl, rfl, SqT.of (f6 _ _ (fA _ _ hl)), atI_nat (j := 2) rfl, (show 3 ≤ sizeLine by decide), fun r7 hr7 => ⟨(show 4 ≤ sizeLine by decide), fun r8 hr8 => ?_⟩⟩
        have f7 := same_new (o := .tup [.str (kindS false), .int 0, .int lo.tm]) hr7
        have f8 := same_new (o := .lst [.ref r4, .ref r5, .ref r6, .ref r7]) hr8
        have g8 := f7.trans f8
        have g6 := f6.trans g8
        have g5 := f5.trans g6
        have g4 := f4.trans g5
        have g3 := f3.trans g4
        have g2 := f2.trans g3
        refine k _ r8 (.ref r4) (.ref r5) (.ref r6) (.ref r7) (eH.trans (f1.trans g2)) upd_same ⟨r4, r3, [.ref r1, .ref r2], rfl, g5 _ _ upd_same, g4 _ _ upd_same, .cons ⟨r1, rfl, g2 _ _ upd_same⟩ (.cons ⟨r2, rfl, g3 _ _ upd_same⟩ .nil)⟩ ⟨r5, rfl, g6 _ _ upd_same⟩ ⟨r6, rfl, g8 _ _ upd_same⟩ ⟨r7, rfl, f8 _ _ upd_same⟩
      | false =>
        rw [hev] at k
        -- two events
        refine iteF ⟨(show 4 ≤ sizeLine by decide), fun r1 hr1 => ⟨_, rfl, (show 4 ≤ sizeLine by decide), fun r2 hr2 => ⟨(show 2 ≤ sizeLine by decide), fun r3 hr3 => ⟨(show 2 ≤ sizeLine by decide), fun r4 hr4 => ⟨_, rfl, _, rfl, 0, _, rfl, rfl, (show 3 ≤ sizeLine by decide), fun r5 hr5 => ?_⟩⟩⟩⟩⟩
        have f1 := same_new (o := .tup [.int 2, .int 0, .non, .int 0]) hr1
        have f2 := same_new (o := .tup [.int 1, .int 2, .non, .int (hi.tm - lo.tm - 1)]) hr2
        have f3 := same_new (o := .tup [.ref r1, .ref r2]) hr3
        have f4 := same_new (o := .tup [.int 3, .ref r3]) hr4
        have f5 := same_new (o := .tup [.int 0, .int (0 - (hi.tm - lo.tm - 1)), .int 0]) hr5
        have fA := ((f1.trans f2).trans f3).trans (f4.trans f5)
        refine ⟨.ref h, rfl, h, _, 0, _, rfl, rfl, SqT.of (fA _ _ hh), atI_nat (j := 0) rfl, .ref h, rfl, h, _, 2, _, rfl, rfl, SqT.of (fA _ _ hh), atI_nat (j := 2) rfl, (show 3 ≤ sizeLine by decide), fun r6 hr6 => ?_⟩
        have f6 := same_new (o := .tup [.str (kindS true), .int 0, .int hi.tm]) hr6
        refine ⟨.ref l, rfl, l, _, 0, _, rfl, rfl, SqT.of (f6 _ _ (fA _ _ hl)), atI_nat (j := 0) rfl, .ref l, rfl, l, _, 2, _, rfl, rfl, SqT.of (f6 _ _ (fA _ _ hl)), atI_nat (j := 2) rfl, (show 3 ≤ sizeLine by decide), fun r7 hr7 => ⟨(show 4 ≤ sizeLine by decide), fun r8 hr8 => ?_⟩⟩
        have f7 := same_new (o := .tup [.str (kindS false), .int 1, .int lo.tm]) hr7
        have f8 := same_new (o := .lst [.ref r4, .ref r5, .ref r6, .ref r7]) hr8
        have g8 := f7.trans f8
        have g6 := f6.trans g8
        have g5 := f5.trans g6
        have g4 := f4.trans g5
        have g3 := f3.trans g4
        have g2 := f2.trans g3
        refine k _ r8 (.ref r4) (.ref r5) (.ref r6) (.ref r7) (eH.trans (f1.trans g2)) upd_same ⟨r4, r3, [.ref r1, .ref r2], rfl, g5 _ _ upd_same, g4 _ _ upd_same, .cons ⟨r1, rfl, g2 _ _ upd_same⟩ (.cons ⟨r2, rfl, g3 _ _ upd_same⟩ .nil)⟩ ⟨r5, rfl, g6 _ _ upd_same⟩ ⟨r6, rfl, g8 _ _ upd_same⟩ ⟨r7, rfl, f8 _ _ upd_same⟩
end
end AbW
namespace AbW
open PySem PySem.Spec PyProof.Rows L2 AbR AB
/-! ### plain facts for the law -/
theorem Drawn.net {n : Nat} {rs : List Rule} {t : List Int} (d : Drawn n rs t) : NetOk n rs := by
  have h1 := d.size
  have h2 := d.few
  exact ⟨by omega, by omega, by omega, d.ok⟩
theorem Drawn.netS {n : Nat} {rs : List Rule} {t : List Int} (d : Drawn n rs t) : NetS n rs := by
  have h1 := d.size
  exact ⟨by omega, by omega, d.few⟩
theorem Drawn.times {n : Nat} {rs : List Rule} {t : List Int} (d : Drawn n rs t) : TimesOk n t := ⟨d.len, fun x hx => by
  have := d.small x hx
  omega⟩
theorem ruleOk_hi {n s e : Nat} {x : Int} (hs : s < n) (he : e < n) (hne : s ≠ e) (h1 : -100 ≤ x) (h2 : x ≤ 100) : RuleOk n ⟨s, e, none, some x⟩ where
  s := hs
  e := he
  ne := hne
  lo := fun _ h => by cases h
  hi := fun i h => by cases h; exact ⟨h1, h2⟩
  some := .inr (by intro h; cases h)
theorem ap_net (same : Bool) {b : Int} (h1 : -7 ≤ b) (h2 : b ≤ 5) : NetOk (apSize same) (apRules same b) := by
  cases same with
  | true =>
    refine ⟨by decide, by decide, (show 2 ≤ 12 by decide), fun r hr => ?_⟩
    have hr : r ∈ [(⟨1, 0, none, some 0⟩ : Rule), ⟨0, 1, none, some b⟩] := hr
    rcases List.mem_cons.mp hr with z | z
    · subst z
      exact ruleOk_hi (by decide) (by decide) (by decide) (by decide) (by decide)
    · have z := List.mem_singleton.mp z
      subst z
      exact ruleOk_hi (by decide) (by decide) (by decide) (by omega) (by omega)
  | false =>
    refine ⟨by decide, by decide, (show 2 ≤ 12 by decide), fun r hr => ?_⟩
    have hr : r ∈ [(⟨2, 0, none, some 0⟩ : Rule), ⟨1, 2, none, some b⟩] := hr
    rcases List.mem_cons.mp hr with z | z
    · subst z
      exact ruleOk_hi (by decide) (by decide) (by decide) (by decide) (by decide)
    · have z := List.mem_singleton.mp z
      subst z
      exact ruleOk_hi (by decide) (by decide) (by decide) (by omega) (by omega)
theorem ap_netS (same : Bool) (b : Int) : NetS (apSize same) (apRules same b) := by
  cases same <;> exact ⟨by decide, by decide, by show 2 ≤ 5; decide⟩
theorem ap_times (same : Bool) {b : Int} (h1 : -7 ≤ b) (h2 : b ≤ 5) : TimesOk (apSize same) (apTimes same b) := by
  cases same with
  | true =>
    refine ⟨rfl, fun x hx => ?_⟩
    have hx : x ∈ [(0 : Int), 0] := hx
    simp at hx
    omega
  | false =>
    refine ⟨rfl, fun x hx => ?_⟩
    have hx : x ∈ [(0 : Int), 0 - b, 0] := hx
    simp at hx
    omega
theorem ap_ev5 (same : Bool) : apLowEv same ≤ 5 := by
  cases same <;> decide
theorem ap_ev0 (same : Bool) : 0 < apSize same := by
  cases same <;> decide
theorem ap_evL (same : Bool) : apLowEv same < apSize same := by
  cases same <;> decide
theorem ap_all {same : Bool} {v w : Int} (h1 : -3 ≤ v) (h2 : v ≤ 3) (h3 : -3 ≤ w) (h4 : w ≤ 3) (h : same = true → w < v) : apTest same v w = true := by
  cases same with
  | true => exact ap_same v (sevens_mem h1 h2) w (sevens_mem h3 h4) (h rfl)
  | false => exact ap_other v (sevens_mem h1 h2) w (sevens_mem h3 h4)
theorem ap_kept {same : Bool} {v w : Int} (h : apTest same v w = true) : Kept (apTimes same (v - w - 1)) (apRules same (v - w - 1)) := fun r hr => by
  have h2 := (Bool.and_eq_true_iff.mp h).2
  exact holds_of (List.all_eq_true.mp h2 r hr)
theorem ap_last {same : Bool} {v w : Int} (h : apTest same v w = true) :
    lastM ([(⟨true, 0, v⟩ : Stp), ⟨false, apLowEv same, w⟩].foldl (stepM (boundsM (apSize same) (edgesM (apRules same (v - w - 1))))) (apTimes same (v - w - 1))) ≠
      lastM ([(⟨false, apLowEv same, w⟩ : Stp), ⟨true, 0, v⟩].foldl (stepM (boundsM (apSize same) (edgesM (apRules same (v - w - 1))))) (apTimes same (v - w - 1))) :=
  of_decide_eq_true (Bool.and_eq_true_iff.mp h).1
/-- lists of ints as data -/
theorem ints_lay : ∀ ns : List Int, PyData.canLayAll0 (ns.map PyData.int) = true
  | [] => by simp [PyData.canLayAll0]
  | n :: r => by
    have h := ints_lay r
    simp [PyData.canLayAll0, PyData.canLay0, h]
theorem ints_depth : ∀ ns : List Int, PyData.depthAll (ns.map PyData.int) = 0
  | [] => by simp [PyData.depthAll]
  | n :: r => by
    have h := ints_depth r
    simp [PyData.depthAll, PyData.depth, h]
theorem ints_shaped (ns : List Int) : SeqAt.shaped (.tuple (ns.map PyData.int)) = true := by
  unfold SeqAt.shaped
  simp [PyData.canLay0, PyData.depth, ints_lay, ints_depth]
theorem ints_dp {K : PySem.W.Frag} {H : Hp} : ∀ ns : List Int, DpAll K H (ns.map V.int) (ns.map PyData.int)
  | [] => .nil
  | n :: r => .cons (.int n) (ints_dp r)
theorem at_last {t : List Int} (h : 0 < t.length) : atI (t.map V.int) (-1) = some (.int (lastM t)) := by
  obtain ⟨i, x, rfl⟩ : ∃ i x, t = i ++ [x] := ⟨t.dropLast, t.getLast (by intro z; rw [z] at h; exact absurd h (by decide)), (List.dropLast_concat_getLast _).symm⟩
  rw [List.map_append]
  have e : lastM (i ++ [x]) = x := by
    unfold lastM
    show (i ++ [x]).getD ((i ++ [x]).length - 1) 0 = x
    rw [List.getD_eq_getElem?_getD, List.length_append, List.length_singleton, Nat.add_sub_cancel, List.getElem?_append_right (Nat.le_refl _), Nat.sub_self]
    rfl
  rw [e]
  exact atI_last _ _
section
variable {P : Program} {w : World} {K : PySem.W.Frag} {mg : Str → Option Value} {base : Heap}
/-! ### law -/
theorem kind_at {d : Int} (h0 : 0 ≤ d) (h1 : d < 2) : atI [V.str "raise", .str "lower"] d = some (.str (kindS (decide (d = 0)))) := by
  have : d = 0 ∨ d = 1 := by omega
  rcases this with e | e <;> subst e <;> decide +kernel
theorem go_name {i : Nat} {v : V} {σ : L2.St} {H : Hp} {Q : L2.St → Hp → Prop} (h : Q (σ.set i (some v)) H) : gName i v σ H Q := h
theorem go_seq {t u : TS} {D : Ends} {σ : L2.St} {H : Hp} (h : t { D with nx := u D } σ H) : tSeq t u D σ H := h
abbrev s_law : Stmt := topS 62
theorem sc_law : FnScope ["_law_script", "_law_stream_here", "_law_net_here", "_law_times", "_law_turn", "_law_one", "_law_other", "_law_made", "_law_begin", "_law_high", "_law_low", "_law_ahead", "_law_behind"] ["_law_script"] (defScope s_law) := ⟨rfl, rfl, rfl, by decide +kernel, rfl, by decide +kernel, by decide +kernel⟩
def spLaw (K : PySem.W.Frag) : Sp := fun vs H Q _ => ∃ (a : Addr) (ns : List Int), vs = [.ref a] ∧ SqL K H a (ns.map V.int) ∧ ns.length ≤ 63 ∧ ∀ H', Q (.bl true) H'
theorem kn_law (gb : Gb mg) (k_law_stream : Kn P w K mg base 1 "_law_stream" ["_law_script"] (spStream K)) (k_law_next : Kn P w K mg base 1 "_law_next" ["_law_stream_here", "_law_many"] spNext) (k_law_net : Kn P w K mg base 2 "_law_net" ["_law_stream_here", "_law_least", "_law_sizes"] spLawNet)
    (k_law_apart : Kn P w K mg base 1 "_law_apart" ["_law_one", "_law_other"] spApart) (k_commute : Kn P w K mg base 4 "commute" ["one", "other"] spCommute) (k_stepped : Kn P w K mg base 7 "stepped" ["net", "times", "steps"] spStepped) (k_keeps : Kn P w K mg base 7 "keeps" ["net", "times"] spKeeps)
    (f : Addr) (fd : FuncData) (F : Fun K "law" "law" s_law f fd) : FnOk P w K mg base CX0 8 f fd ["_law_script"] (spLaw K) := by
  refine F.ok sc_law (fun vs H Q E h => ?_) (fun cdv A outer s H vs Q E hr h => ?_)
  · obtain ⟨a, ns, rfl, _⟩ := h
    rfl
  · obtain ⟨a, ns, rfl, hS, _, k⟩ := h
    refine ⟨_, (pss_cons (ps_set (i := 1) sc_law.nd rfl (Or.inl rfl) (pe_kn k_law_stream (hr.mono (by decide)) (by rfl) (pa_cons (pv 0) pa_nil)))
      (pss_cons (ps_asg (pe_kn k_law_net (hr.mono (by decide)) (by rfl) (pa_cons (pv 1) (pa_cons pe_int (pa_cons pe_int pa_nil)))) (pg_unl (by rfl) (pgs_cons (pg_name (i := 2) sc_law.nd rfl (Or.inl rfl)) (pgs_cons (pg_name (i := 3) sc_law.nd rfl (Or.inl rfl)) pgs_nil))))
      (pss_cons (ps_for PassesOwn.never rfl (pi_range1 (by rfl) gb.range (pa_cons pe_int pa_nil)) (pg_name (i := 4) sc_law.nd rfl (Or.inl rfl)) (pss_cons (ps_set (i := 5) sc_law.nd rfl (Or.inl rfl) (pe_tup (pa_cons (pe_ix (ixL (K := K)) (pe_lst (pa_cons pe_str (pa_cons pe_str pa_nil))) (pe_kn k_law_next (hr.mono (by decide)) (by rfl) (pa_cons (pv 1) (pa_cons pe_int pa_nil))) (fun _ _ => rfl)) (pa_cons (pe_kn k_law_next (hr.mono (by decide)) (by rfl) (pa_cons (pv 1) (pa_cons pe_int pa_nil))) (pa_cons (pe_op op_sub (pe_kn k_law_next (hr.mono (by decide)) (by rfl) (pa_cons (pv 1) (pa_cons pe_int pa_nil))) pe_int) pa_nil)))))
      (pss_cons (ps_set (i := 6) sc_law.nd rfl (Or.inl rfl) (pe_tup (pa_cons (pe_ix (ixL (K := K)) (pe_lst (pa_cons pe_str (pa_cons pe_str pa_nil))) (pe_kn k_law_next (hr.mono (by decide)) (by rfl) (pa_cons (pv 1) (pa_cons pe_int pa_nil))) (fun _ _ => rfl)) (pa_cons (pe_kn k_law_next (hr.mono (by decide)) (by rfl) (pa_cons (pv 1) (pa_cons pe_int pa_nil))) (pa_cons (pe_op op_sub (pe_kn k_law_next (hr.mono (by decide)) (by rfl) (pa_cons (pv 1) (pa_cons pe_int pa_nil))) pe_int) pa_nil)))))
      (pss_one (ps_if (pt_val (pe_kn k_commute (hr.mono (by decide)) (by rfl) (pa_cons (pv 5) (pa_cons (pv 6) pa_nil)))) (pss_one (ps_if (pt_cmpR (op_neD hr.units) (pe_kn k_stepped (hr.mono (by decide)) (by rfl) (pa_cons (pv 2) (pa_cons (pv 3) (pa_cons (pe_tup (pa_cons (pv 5) (pa_cons (pv 6) pa_nil))) pa_nil)))) (pe_kn k_stepped (hr.mono (by decide)) (by rfl) (pa_cons (pv 2) (pa_cons (pv 3) (pa_cons (pe_tup (pa_cons (pv 6) (pa_cons (pv 5) pa_nil))) pa_nil)))) (nomark _)) (pss_one (ps_ret pe_bl)) pss_nil)) (pss_cons (ps_asg (pe_kn k_law_apart (hr.mono (by decide)) (by rfl) (pa_cons (pv 5) (pa_cons (pv 6) pa_nil))) (pg_unl (by rfl) (pgs_cons (pg_name (i := 7) sc_law.nd rfl (Or.inl rfl)) (pgs_cons (pg_name (i := 8) sc_law.nd rfl (Or.inl rfl)) (pgs_cons (pg_name (i := 9) sc_law.nd rfl (Or.inl rfl)) (pgs_cons (pg_name (i := 10) sc_law.nd rfl (Or.inl rfl)) pgs_nil))))))
      (pss_cons (ps_if (pt_cmpR op_notBl (pe_kn k_keeps (hr.mono (by decide)) (by rfl) (pa_cons (pv 7) (pa_cons (pv 8) pa_nil))) pe_bl (nomark _)) (pss_one (ps_ret pe_bl)) pss_nil)
      (pss_cons (ps_set (i := 11) sc_law.nd rfl (Or.inl rfl) (pe_kn k_stepped (hr.mono (by decide)) (by rfl) (pa_cons (pv 7) (pa_cons (pv 8) (pa_cons (pe_tup (pa_cons (pv 9) (pa_cons (pv 10) pa_nil))) pa_nil)))))
      (pss_cons (ps_set (i := 12) sc_law.nd rfl (Or.inl rfl) (pe_kn k_stepped (hr.mono (by decide)) (by rfl) (pa_cons (pv 7) (pa_cons (pv 8) (pa_cons (pe_tup (pa_cons (pv 10) (pa_cons (pv 9) pa_nil))) pa_nil)))))
      (pss_one (ps_if (pt_cmpR op_eq (pe_ix (ixT (K := K)) (pv 11) (pe_un un_neg pe_int) (fun _ _ => rfl)) (pe_ix (ixT (K := K)) (pv 12) (pe_un un_neg pe_int) (fun _ _ => rfl)) (nomark _)) (pss_one (ps_ret pe_bl)) pss_nil)))))))))))
      (pss_one (ps_ret pe_bl))))), ?_⟩
    refine ⟨.ref a, rfl, a, ns, rfl, hS, fun H1 s l e1 h1 => ?_⟩
    refine ⟨.ref s, rfl, s, l, ns, rfl, h1, fun H2 p nv tv n rs t e2 h2 hp hn ht dr => ?_⟩
    refine ⟨p, _, rfl, SqL.of hp, rfl, _, _, rfl, _, _, rfl, rfl, 3, rfl, by decide, by decide, ?_⟩
    refine for_it walk_range (fun i σ H3 => ∃ y4 y5 y6 y7 y8 y9 y10 y11 y12, σ = [some (.ref a), some (.ref s), some nv, some tv, y4, y5, y6, y7, y8, y9, y10, y11, y12] ∧ StrAt H3 s l ns ∧ NetAt H3 nv n rs ∧ IntsAt H3 tv t)
      ⟨_, _, _, _, _, _, _, _, _, rfl, h2, hn, ht⟩ (fun _ _ _ _ _ => trivial) (fun i x σ H3 H4 hi p hx => ?_) (fun σ H3 p => k H3)
    obtain ⟨y4, y5, y6, y7, y8, y9, y10, y11, y12, rfl, h3, hn3, ht3⟩ := p
    obtain ⟨rfl, rfl⟩ := hx
    -- a drawn step
    have stp : ∀ (j : Nat) (D : Ends) (σ : L2.St) (G : Hp), σ[1]? = some (some (.ref s)) → StrAt G s l ns → (∀ G' q b, Tk G G' → StrAt G' s l ns → StpAt G' (.ref q) b → b.ev < 3 → -3 ≤ b.tm → b.tm ≤ 3 → D.nx (σ.set j (some (.ref q))) G') →
        tAsg (tTup (tCons (tOp (rIxL K) (tLst (tCons (tC (.str "raise")) (tCons (tC (.str "lower")) tNil))) (tCall spNext [] E0 (tCons (tVar 1) (tCons (tC (.int 2)) tNil)))) (tCons (tCall spNext [] E0 (tCons (tVar 1) (tCons (tC (.int 3)) tNil)))
          (tCons (tOp (rI0 fun i j => .int (i - j)) (tCall spNext [] E0 (tCons (tVar 1) (tCons (tC (.int 7)) tNil))) (tC (.int 3))) tNil)))) (gName j) D σ G := fun j D σ G h1 hG kk => by
      refine ⟨(show 2 ≤ sizeLine by decide), fun p1 hp1 => ?_⟩
      have eL := same_new (o := .lst [.str "raise", .str "lower"]) hp1
      have hps : p1 ≠ s := let ⟨_, _, _, _, h⟩ := hG; (ne_of_none h hp1).symm
      have hG1 := hG.same eL
      refine ⟨.ref s, h1, s, l, 2, ns, rfl, hG1, by decide, by decide, fun H5 d e5 h5 d0 d1 => ⟨p1, _, d, _, rfl, rfl, SqL.of (e5 _ _ hps upd_same), kind_at d0 d1, ?_⟩⟩
      refine ⟨.ref s, h1, s, l, 3, ns, rfl, h5, by decide, by decide, fun H6 ev e6 h6 ev0 ev1 => ?_⟩
      refine ⟨.ref s, h1, s, l, 7, ns, rfl, h6, by decide, by decide, fun H7 tm e7 h7 t0 t1 => ⟨tm, 3, rfl, rfl, (show 3 ≤ sizeLine by decide), fun q hq => ?_⟩⟩
      obtain ⟨e, rfl⟩ := Int.eq_ofNat_of_zero_le ev0
      have eQ := same_new (o := .tup [.str (kindS (decide (d = 0))), .int (e : Nat), .int (tm - 3)]) hq
      have tkA : Tk G H7 := (tk_of eL).trans (((hG1.tk e5).trans (h5.tk e6)).trans (h6.tk e7))
      exact kk _ q ⟨decide (d = 0), e, tm - 3⟩ (tkA.trans (tk_of eQ)) (h7.same eQ) ⟨q, rfl, upd_same⟩ (by show e < 3; omega) (by show -3 ≤ tm - 3; omega) (by show tm - 3 ≤ 3; omega)
    refine go_name ?_
    refine go_seq ?_
    refine stp _ _ _ _ rfl h3 fun G1 q1 b1 tk1 hG1 hb1 ev1 lo1 hi1 => ?_
    refine go_seq ?_
    refine stp _ _ _ _ rfl hG1 fun G2 q2 b2 tk2 hG2 hb2 ev2 lo2 hi2 => ?_
    have hb1 := hb1.mono tk2
    have tk12 := tk1.trans tk2
    have hn2 := hn3.mono tk12
    have ht2 := ht3.mono tk12
    have ok1 : StpOk b1 := ⟨by omega, by omega, by omega⟩
    have ok2 : StpOk b2 := ⟨by omega, by omega, by omega⟩
    have dn := dr.size
    refine ⟨.ref q1, rfl, .ref q2, rfl, .ref q1, .ref q2, b1, b2, rfl, hb1, hb2, ok1, ok2, fun G3 e3 => ⟨_, rfl, ?_⟩⟩
    have hG3 := hG2.same e3
    have hb13 := hb1.mono (tk_of e3)
    have hb23 := hb2.mono (tk_of e3)
    have hn3' := hn2.mono (tk_of e3)
    have ht3' := ht2.mono (tk_of e3)
    -- two steps told
    have two : ∀ {x y : Stp} {P : Stp → Prop}, P x → P y → ∀ z ∈ [x, y], P z := fun {x y P} hx hy z hz => by
      rcases List.mem_cons.mp hz with h | h
      · rw [h]; exact hx
      · rw [List.mem_singleton.mp h]; exact hy
    cases hc : commM b1 b2 with
    | true =>
      refine iteT ⟨nv, rfl, tv, rfl, .ref q1, rfl, .ref q2, rfl, (show 2 ≤ sizeLine by decide), fun r1 hr1 => ?_⟩
      have f1 := same_new (o := .tup [.ref q1, .ref q2]) hr1
      have g1 := tk_of f1
      refine ⟨nv, tv, .ref r1, n, rs, t, [b1, b2], rfl, hn3'.mono g1, ht3'.mono g1, ⟨r1, _, rfl, upd_same, .cons (hb13.mono g1) (.cons (hb23.mono g1) .nil)⟩, dr.net, dr.netS, dr.times, dr.kept, two ok1 ok2, two (by omega) (by omega), (show 2 ≤ 16 by decide), fun G4 v4 e4 i4 => ?_⟩
      refine ⟨nv, rfl, tv, rfl, .ref q2, rfl, .ref q1, rfl, (show 2 ≤ sizeLine by decide), fun r2 hr2 => ?_⟩
      have f2 := same_new (o := .tup [.ref q2, .ref q1]) hr2
      have g2 := g1.trans ((tk_of e4).trans (tk_of f2))
      refine ⟨nv, tv, .ref r2, n, rs, t, [b2, b1], rfl, hn3'.mono g2, ht3'.mono g2, ⟨r2, _, rfl, upd_same, .cons (hb23.mono g2) (.cons (hb13.mono g2) .nil)⟩, dr.net, dr.netS, dr.times, dr.kept, two ok2 ok1, two (by omega) (by omega), (show 2 ≤ 16 by decide), fun G5 v5 e5 i5 => ?_⟩
      have i4' := i4.mono ((tk_of f2).trans (tk_of e5))
      have hcm : [b2, b1].foldl (stepM (boundsM n (edgesM rs))) t = [b1, b2].foldl (stepM (boundsM n (edgesM rs))) t := (step_comm (round_bounds dr.kept.edges n) hc t).symm
      rw [hcm] at i5
      obtain ⟨x4, rfl, hx4⟩ := i4'
      obtain ⟨x5, rfl, hx5⟩ := i5
      have hsh := ints_shaped ([b1, b2].foldl (stepM (boundsM n (edgesM rs))) t)
      refine ⟨_, _, .tup (SqT.of hx4) (ints_dp _), .tup (SqT.of hx5) (ints_dp _), hsh, hsh, _, rfl, ?_⟩
      rw [SeqAt.eqv_refl _ (SeqAt.canLay_of_shaped hsh)]
      have e35 : Same G3 G5 := f1.trans (e4.trans (f2.trans e5))
      exact iteF ⟨_, _, _, _, _, _, _, _, _, rfl, hG3.same e35, hn3'.mono (tk_of e35), ht3'.mono (tk_of e35)⟩
    | false =>
      have hup : b1.up ≠ b2.up := fun z => by
        unfold commM at hc
        rw [if_pos z] at hc
        cases hc
      have hlt : sameS b1 b2 = true → (loS b1 b2).tm < (hiS b1 b2).tm := fun z => by
        have z := of_decide_eq_true z
        unfold commM at hc
        rw [if_neg hup] at hc
        by_cases hu : b1.up = true
        · rw [if_pos hu] at hc
          have eh : hiS b1 b2 = b1 := if_pos hu
          have el : loS b1 b2 = b2 := if_pos hu
          rw [eh, el] at z
          rw [decide_eq_true z, Bool.true_and] at hc
          have := of_decide_eq_false hc
          rw [eh, el]
          omega
        · rw [if_neg hu] at hc
          have eh : hiS b1 b2 = b2 := if_neg hu
          have el : loS b1 b2 = b1 := if_neg hu
          rw [eh, el] at z
          rw [decide_eq_true z, Bool.true_and] at hc
          have := of_decide_eq_false hc
          rw [eh, el]
          omega
      have hiR : -3 ≤ (hiS b1 b2).tm ∧ (hiS b1 b2).tm ≤ 3 := by
        unfold hiS
        split
        · exact ⟨lo1, hi1⟩
        · exact ⟨lo2, hi2⟩
      have loR : -3 ≤ (loS b1 b2).tm ∧ (loS b1 b2).tm ≤ 3 := by
        unfold loS
        split
        · exact ⟨lo2, hi2⟩
        · exact ⟨lo1, hi1⟩
      have test := ap_all hiR.1 hiR.2 loR.1 loR.2 hlt
      refine iteF ⟨.ref q1, rfl, .ref q2, rfl, .ref q1, .ref q2, b1, b2, rfl, hb13, hb23, hup, fun G4 pp mv tv' hv lv e4 hp4 hm4 ht4 hh4 hl4 => ?_⟩
      have hbd : bndS b1 b2 = (hiS b1 b2).tm - (loS b1 b2).tm - 1 := rfl
      rw [hbd] at hm4 ht4
      generalize sameS b1 b2 = same at hm4 ht4 hl4 test
      generalize hV : (hiS b1 b2).tm = hi at hm4 ht4 hh4 test hiR
      generalize hW : (loS b1 b2).tm = lo at hm4 ht4 hl4 test loR
      have nok := ap_net same (b := hi - lo - 1) (by omega) (by omega)
      have nS := ap_netS same (hi - lo - 1)
      have tok := ap_times same (b := hi - lo - 1) (by omega) (by omega)
      have kept := ap_kept test
      have last := ap_last test
      have okh : StpOk ⟨true, 0, hi⟩ := ⟨by show 0 ≤ 5; decide, by show -500 ≤ hi; omega, by show hi ≤ 500; omega⟩
      have okl : StpOk ⟨false, apLowEv same, lo⟩ := ⟨ap_ev5 same, by show -500 ≤ lo; omega, by show lo ≤ 500; omega⟩
      have evh : (⟨true, 0, hi⟩ : Stp).ev < apSize same := ap_ev0 same
      have evl : (⟨false, apLowEv same, lo⟩ : Stp).ev < apSize same := ap_evL same
      refine ⟨pp, _, rfl, SqL.of hp4, rfl, _, _, rfl, _, _, rfl, _, _, rfl, _, _, rfl, rfl, ?_⟩
      -- keeps
      refine ⟨mv, rfl, tv', rfl, mv, tv', _, _, _, rfl, hm4, ht4, nok, tok, kept, fun G5 e5 => ⟨true, true, rfl, rfl, _, rfl, iteNS rfl ?_⟩⟩
      -- ahead
      refine ⟨mv, rfl, tv', rfl, hv, rfl, lv, rfl, (show 2 ≤ sizeLine by decide), fun r1 hr1 => ?_⟩
      have f1 := same_new (o := .tup [hv, lv]) hr1
      have g1 := (tk_of e5).trans (tk_of f1)
      refine ⟨mv, tv', .ref r1, _, _, _, _, rfl, hm4.mono g1, ht4.mono g1, ⟨r1, _, rfl, upd_same, .cons (hh4.mono g1) (.cons (hl4.mono g1) .nil)⟩, nok, nS, tok, kept, two okh okl, two evh evl, (show 2 ≤ 16 by decide), fun G6 v6 e6 i6 => ?_⟩
      -- behind
      refine ⟨mv, rfl, tv', rfl, lv, rfl, hv, rfl, (show 2 ≤ sizeLine by decide), fun r2 hr2 => ?_⟩
      have f2 := same_new (o := .tup [lv, hv]) hr2
      have g2 := g1.trans ((tk_of e6).trans (tk_of f2))
      refine ⟨mv, tv', .ref r2, _, _, _, _, rfl, hm4.mono g2, ht4.mono g2, ⟨r2, _, rfl, upd_same, .cons (hl4.mono g2) (.cons (hh4.mono g2) .nil)⟩, nok, nS, tok, kept, two okl okh, two evl evh, (show 2 ≤ 16 by decide), fun G7 v7 e7 i7 => ?_⟩
      have i6' := i6.mono ((tk_of f2).trans (tk_of e7))
      have pos : ∀ ss : List Stp, 0 < (ss.foldl (stepM (boundsM (apSize same) (edgesM (apRules same (hi - lo - 1))))) (apTimes same (hi - lo - 1))).length := fun ss => by
        rw [steps_len]
        cases same
        · exact (by decide : 0 < 3)
        · exact (by decide : 0 < 2)
      have p6 := pos [⟨true, 0, hi⟩, ⟨false, apLowEv same, lo⟩]
      have p7 := pos [⟨false, apLowEv same, lo⟩, ⟨true, 0, hi⟩]
      obtain ⟨x6, rfl, hx6⟩ := i6'
      obtain ⟨x7, rfl, hx7⟩ := i7
      refine ⟨.ref x6, rfl, 1, rfl, x6, _, -1, _, rfl, rfl, SqT.of hx6, at_last p6, .ref x7, rfl, 1, rfl, x7, _, -1, _, rfl, rfl, SqT.of hx7, at_last p7, rfl, _, rfl, ?_⟩
      rw [decide_eq_false (fun z => last (V.int.inj z))]
      have e37 : Same G3 G7 := e4.trans (e5.trans (f1.trans (e6.trans (f2.trans e7))))
      exact iteF ⟨_, _, _, _, _, _, _, _, _, rfl, hG3.same e37, hn3'.mono (tk_of e37), ht3'.mono (tk_of e37)⟩
end
end AbW
namespace AbW
open PySem PySem.Spec PyProof.Rows L2 AbR AB
/-! ### what the top has left -/
theorem df_mk {K : PySem.W.Frag} {h : Heap} {mg : Str → Option Value} (X : K.In h) (G : h.Ns mainGlobals mg) {x nm : Str} {st : Stmt} {f : Addr} {oc kV doc pm cdv ct : Value} {od an : Option Addr} {osl : Array (Option Value)}
    (a : PySem.W.nsIn K mainGlobals x = some (some (.ref f))) (l : K.lookup f = some ⟨oc, od, .func (PySem.W.fnOf nm nm (defArgs st) (defBody st) (defScope st) .none kV doc pm an cdv ct), osl⟩)
    (c : PySem.W.codeIn K cdv nm = true) (k : PySem.W.keepIn K (.ref f) = true) : Df K mg x nm st := ⟨f, _, fun_mk l c k, PySem.W.mg_of X G a⟩
theorem gc_mk {K : PySem.W.Frag} {h : Heap} {mg : Str → Option Value} (X : K.In h) (G : h.Ns mainGlobals mg) {t1 t2 t3 t4 t5 t6 t7 : Tok}
    (a1 : PySem.W.nsIn K mainGlobals "MOST_EVENTS" = some (some (.int 6 t1))) (a2 : PySem.W.nsIn K mainGlobals "MOST_RULES" = some (some (.int 12 t2))) (a3 : PySem.W.nsIn K mainGlobals "FARTHEST" = some (some (.int 100 t3)))
    (a4 : PySem.W.nsIn K mainGlobals "LATEST" = some (some (.int 1000 t4))) (a5 : PySem.W.nsIn K mainGlobals "MOST_EVENT" = some (some (.int 5 t5))) (a6 : PySem.W.nsIn K mainGlobals "MOST_TIME" = some (some (.int 500 t6)))
    (a7 : PySem.W.nsIn K mainGlobals "MOST_STEPS" = some (some (.int 16 t7))) : Gc mg :=
  ⟨⟨_, PySem.W.mg_of X G a1⟩, ⟨_, PySem.W.mg_of X G a2⟩, ⟨_, PySem.W.mg_of X G a3⟩, ⟨_, PySem.W.mg_of X G a4⟩, ⟨_, PySem.W.mg_of X G a5⟩, ⟨_, PySem.W.mg_of X G a6⟩, ⟨_, PySem.W.mg_of X G a7⟩⟩
theorem gb_mk {K : PySem.W.Frag} {h : Heap} {mg : Str → Option Value} (X : K.In h) (G : h.Ns mainGlobals mg)
    (z0 : PySem.W.nsIn K mainGlobals "isinstance" = some none)
    (z1 : PySem.W.nsIn K mainGlobals "len" = some none)
    (z2 : PySem.W.nsIn K mainGlobals "all" = some none)
    (z3 : PySem.W.nsIn K mainGlobals "any" = some none)
    (z4 : PySem.W.nsIn K mainGlobals "max" = some none)
    (z5 : PySem.W.nsIn K mainGlobals "min" = some none)
    (z6 : PySem.W.nsIn K mainGlobals "abs" = some none)
    (z7 : PySem.W.nsIn K mainGlobals "int" = some none)
    (z8 : PySem.W.nsIn K mainGlobals "bool" = some none)
    (z9 : PySem.W.nsIn K mainGlobals "str" = some none)
    (z10 : PySem.W.nsIn K mainGlobals "tuple" = some none)
    (z11 : PySem.W.nsIn K mainGlobals "list" = some none)
    (z12 : PySem.W.nsIn K mainGlobals "range" = some none)
    (z13 : PySem.W.nsIn K mainGlobals "enumerate" = some none) : Gb mg :=
  ⟨PySem.W.mg_none_of X G z0, PySem.W.mg_none_of X G z1, PySem.W.mg_none_of X G z2, PySem.W.mg_none_of X G z3, PySem.W.mg_none_of X G z4, PySem.W.mg_none_of X G z5, PySem.W.mg_none_of X G z6, PySem.W.mg_none_of X G z7, PySem.W.mg_none_of X G z8, PySem.W.mg_none_of X G z9, PySem.W.mg_none_of X G z10, PySem.W.mg_none_of X G z11, PySem.W.mg_none_of X G z12, PySem.W.mg_none_of X G z13⟩
section
variable {P : Program} {w : World} {K : PySem.W.Frag} {mg : Str → Option Value} {base : Heap}
theorem walked (gb : Gb mg) (gc : Gc mg)
    (d_is_between : Df K mg "is_between" "is_between" s_is_between)
    (d_is_side : Df K mg "is_side" "is_side" s_is_side)
    (d_is_rule : Df K mg "is_rule" "is_rule" s_is_rule)
    (d_is_net : Df K mg "is_net" "is_net" s_is_net)
    (d_is_times : Df K mg "is_times" "is_times" s_is_times)
    (d_check_net_nets : Df K mg "check_net_nets" "check_net" s_check_net_nets)
    (d_check_times_nets : Df K mg "check_times_nets" "check_times" s_check_times_nets)
    (d_excess_of : Df K mg "excess_of" "excess_of" s_excess_of)
    (d_all_hold : Df K mg "all_hold" "all_hold" s_all_hold)
    (d_keeps : Df K mg "keeps" "keeps" s_keeps)
    (d_edges_of : Df K mg "edges_of" "edges_of" s_edges_of)
    (d_is_integer : Df K mg "is_integer" "is_integer" s_is_integer)
    (d_check_net_bounds : Df K mg "check_net_bounds" "check_net" s_check_net_bounds)
    (d_longer_walks : Df K mg "longer_walks" "longer_walks" s_longer_walks)
    (d_first_round : Df K mg "first_round" "first_round" s_first_round)
    (d_shortest_walks : Df K mg "shortest_walks" "shortest_walks" s_shortest_walks)
    (d_with_walk : Df K mg "with_walk" "with_walk" s_with_walk)
    (d_bounds_of : Df K mg "bounds_of" "bounds_of" s_bounds_of)
    (d_known_bounds : Df K mg "known_bounds" "known_bounds" s_known_bounds)
    (d_check_times_repair : Df K mg "check_times_repair" "check_times" s_check_times_repair)
    (d_is_event_time : Df K mg "is_event_time" "is_event_time" s_is_event_time)
    (d_is_step : Df K mg "is_step" "is_step" s_is_step)
    (d_are_steps : Df K mg "are_steps" "are_steps" s_are_steps)
    (d_check_steps : Df K mg "check_steps" "check_steps" s_check_steps)
    (d_do_commute : Df K mg "do_commute" "do_commute" s_do_commute)
    (d_commute : Df K mg "commute" "commute" s_commute)
    (d_step_moved : Df K mg "step_moved" "step_moved" s_step_moved)
    (d_stepped : Df K mg "stepped" "stepped" s_stepped)
    (d_law_stream : Df K mg "_law_stream" "_law_stream" s_law_stream)
    (d_law_next : Df K mg "_law_next" "_law_next" s_law_next)
    (d_law_net : Df K mg "_law_net" "_law_net" s_law_net)
    (d_law_apart : Df K mg "_law_apart" "_law_apart" s_law_apart)
    {f : Addr} {fd : FuncData} (F : Fun K "law" "law" s_law f fd) : FnOk P w K mg base CX0 8 f fd ["_law_script"] (spLaw K) := by
  have k_is_between := kn_is_between (P := P) (w := w) (base := base) gb d_is_between
  have k_is_side := kn_is_side gb gc k_is_between d_is_side
  have k_is_rule := kn_is_rule gb gc k_is_between k_is_side d_is_rule
  have k_is_net := kn_is_net gb gc k_is_between k_is_rule d_is_net
  have k_is_times := kn_is_times gb gc k_is_between d_is_times
  have k_check_net_nets := kn_check_net_nets k_is_net d_check_net_nets
  have k_check_net_bounds := kn_check_net_bounds k_is_net d_check_net_bounds
  have k_check_times_nets := kn_check_times_nets k_check_net_nets k_is_times d_check_times_nets
  have k_excess_of := kn_excess_of (P := P) (w := w) (base := base) d_excess_of
  have k_all_hold := kn_all_hold gb k_excess_of d_all_hold
  have k_keeps := kn_keeps k_check_times_nets k_all_hold d_keeps
  have k_check_times_repair := kn_check_times_repair k_is_times k_all_hold d_check_times_repair
  have k_is_integer := kn_is_integer (P := P) (w := w) (base := base) gb d_is_integer
  have k_is_event_time := kn_is_event_time gc k_is_integer d_is_event_time
  have k_is_step := kn_is_step gb k_is_event_time d_is_step
  have k_are_steps := kn_are_steps gb gc k_is_step d_are_steps
  have k_check_steps := kn_check_steps k_are_steps d_check_steps
  have k_do_commute := kn_do_commute (P := P) (w := w) (base := base) d_do_commute
  have k_commute := kn_commute k_is_step k_do_commute d_commute
  have k_step_moved := kn_step_moved (P := P) (w := w) (base := base) gb d_step_moved
  have k_edges_of := kn_edges_of (P := P) (w := w) (base := base) gb d_edges_of
  have k_longer_walks := kn_longer_walks k_edges_of d_longer_walks
  have k_with_walk := kn_with_walk (P := P) (w := w) (base := base) d_with_walk
  have k_first_round := kn_first_round gb k_longer_walks d_first_round
  have k_shortest_walks := kn_shortest_walks gb k_longer_walks k_with_walk d_shortest_walks
  have k_bounds_of := kn_bounds_of gb k_first_round k_shortest_walks d_bounds_of
  have k_known_bounds := kn_known_bounds k_check_net_bounds k_bounds_of d_known_bounds
  have k_stepped := kn_stepped gb k_known_bounds k_check_times_repair k_check_steps k_step_moved d_stepped
  have k_law_stream := kn_law_stream (P := P) (w := w) (base := base) gb d_law_stream
  have k_law_next := kn_law_next (P := P) (w := w) (base := base) gb d_law_next
  have k_law_net := kn_law_net gb k_law_next d_law_net
  have k_law_apart := kn_law_apart (P := P) (w := w) (base := base) d_law_apart
  exact kn_law gb k_law_stream k_law_next k_law_net k_law_apart k_commute k_stepped k_keeps f fd F
end
theorem law_mk {l : PySem.W.OpenLaw} {w : World} {K : PySem.W.Frag} {h : Heap} {mg : Str → Option Value} {fa f : Addr} (X : K.In h) (G : h.Ns mainGlobals mg) (hfa : mg "law" = some (.ref fa)) (gb : Gb mg) (gc : Gc mg)
    (d_is_between : Df K mg "is_between" "is_between" s_is_between)
    (d_is_side : Df K mg "is_side" "is_side" s_is_side)
    (d_is_rule : Df K mg "is_rule" "is_rule" s_is_rule)
    (d_is_net : Df K mg "is_net" "is_net" s_is_net)
    (d_is_times : Df K mg "is_times" "is_times" s_is_times)
    (d_check_net_nets : Df K mg "check_net_nets" "check_net" s_check_net_nets)
    (d_check_times_nets : Df K mg "check_times_nets" "check_times" s_check_times_nets)
    (d_excess_of : Df K mg "excess_of" "excess_of" s_excess_of)
    (d_all_hold : Df K mg "all_hold" "all_hold" s_all_hold)
    (d_keeps : Df K mg "keeps" "keeps" s_keeps)
    (d_edges_of : Df K mg "edges_of" "edges_of" s_edges_of)
    (d_is_integer : Df K mg "is_integer" "is_integer" s_is_integer)
    (d_check_net_bounds : Df K mg "check_net_bounds" "check_net" s_check_net_bounds)
    (d_longer_walks : Df K mg "longer_walks" "longer_walks" s_longer_walks)
    (d_first_round : Df K mg "first_round" "first_round" s_first_round)
    (d_shortest_walks : Df K mg "shortest_walks" "shortest_walks" s_shortest_walks)
    (d_with_walk : Df K mg "with_walk" "with_walk" s_with_walk)
    (d_bounds_of : Df K mg "bounds_of" "bounds_of" s_bounds_of)
    (d_known_bounds : Df K mg "known_bounds" "known_bounds" s_known_bounds)
    (d_check_times_repair : Df K mg "check_times_repair" "check_times" s_check_times_repair)
    (d_is_event_time : Df K mg "is_event_time" "is_event_time" s_is_event_time)
    (d_is_step : Df K mg "is_step" "is_step" s_is_step)
    (d_are_steps : Df K mg "are_steps" "are_steps" s_are_steps)
    (d_check_steps : Df K mg "check_steps" "check_steps" s_check_steps)
    (d_do_commute : Df K mg "do_commute" "do_commute" s_do_commute)
    (d_commute : Df K mg "commute" "commute" s_commute)
    (d_step_moved : Df K mg "step_moved" "step_moved" s_step_moved)
    (d_stepped : Df K mg "stepped" "stepped" s_stepped)
    (d_law_stream : Df K mg "_law_stream" "_law_stream" s_law_stream)
    (d_law_next : Df K mg "_law_next" "_law_next" s_law_next)
    (d_law_net : Df K mg "_law_net" "_law_net" s_law_net)
    (d_law_apart : Df K mg "_law_apart" "_law_apart" s_law_apart)
    {oc kV doc pm cdv ct : Value} {od an : Option Addr} {osl : Array (Option Value)} (a : PySem.W.nsIn K mainGlobals "law" = some (some (.ref f)))
    (lk : K.lookup f = some ⟨oc, od, .func (PySem.W.fnOf "law" "law" (defArgs s_law) (defBody s_law) (defScope s_law) .none kV doc pm an cdv ct), osl⟩) (c : PySem.W.codeIn K cdv "law" = true) (k : PySem.W.keepIn K (.ref f) = true) :
    ∃ fd : FuncData, (∀ (s : Shared) (v : Value), BindsTo s fd ⟨[v], []⟩ [("_law_script", v)]) ∧ ∀ base : Heap, K.In base → base.Ns mainGlobals mg → FnOk l.prog w K mg base CX0 8 fa fd ["_law_script"] (spLaw K) := by
  have e := hfa.symm.trans (PySem.W.mg_of X G a)
  cases e
  exact ⟨PySem.W.fnOf "law" "law" (defArgs s_law) (defBody s_law) (defScope s_law) .none kV doc pm an cdv ct, fun s v => .of_eq rfl, fun base _ _ => walked gb gc d_is_between d_is_side d_is_rule d_is_net d_is_times d_check_net_nets d_check_times_nets d_excess_of d_all_hold d_keeps d_edges_of d_is_integer d_check_net_bounds d_longer_walks d_first_round d_shortest_walks d_with_walk d_bounds_of d_known_bounds d_check_times_repair d_is_event_time d_is_step d_are_steps d_check_steps d_do_commute d_commute d_step_moved d_stepped d_law_stream d_law_next d_law_net d_law_apart (fun_mk lk c k)⟩
end AbW
set_option maxHeartbeats 0
open PySem PySem.W PyProof.Rows
open_top abHead for PySem.Challenge.rw_allbide_k41_whole_what_commuting_does
theorem PySem.Challenge.cw_allbide_k41_whole_what_commuting_does_holds : PySem.Challenge.rw_allbide_k41_whole_what_commuting_does.Holds :=
  abHead (by
    k_fill
    refine L2.walk_ofK (l := PySem.Challenge.rw_allbide_k41_whole_what_commuting_does) (n := 63) (k := 8) (x := "_law_script") (CX := L2.CX0) (sp := AbW.spLaw) rfl (by decide) rfl ⟨rfl, by decide, by decide⟩ (fun w h Y => PySem.W.kIn_of Y) ?F
      (fun _ _ a ns hl _ hS => ⟨a, ns, rfl, hS, hl, fun _ => rfl⟩) (fun _ _ _ _ h => h)
    case F =>
      intro w mg fa h KX G hmg
      have gb : AbW.Gb mg := by
        refine' AbW.gb_mk KX G ?z0 ?z1 ?z2 ?z3 ?z4 ?z5 ?z6 ?z7 ?z8 ?z9 ?z10 ?z11 ?z12 ?z13
        (case z0 => k_is); (case z1 => k_is); (case z2 => k_is); (case z3 => k_is); (case z4 => k_is); (case z5 => k_is); (case z6 => k_is); (case z7 => k_is); (case z8 => k_is); (case z9 => k_is); (case z10 => k_is); (case z11 => k_is); (case z12 => k_is); (case z13 => k_is)
      have gc : AbW.Gc mg := by
        refine' AbW.gc_mk KX G ?a1 ?a2 ?a3 ?a4 ?a5 ?a6 ?a7
        (case a1 => k_is); (case a2 => k_is); (case a3 => k_is); (case a4 => k_is); (case a5 => k_is); (case a6 => k_is); (case a7 => k_is)
      have d_is_between : AbW.Df (abHead.heap_39 w.params) mg "is_between" "is_between" AbW.s_is_between := by
        refine' AbW.df_mk KX G ?a ?l ?c ?k
        (case a => k_is); (case l => k_is); (case c => k_is); (case k => k_is)
      have d_is_side : AbW.Df (abHead.heap_39 w.params) mg "is_side" "is_side" AbW.s_is_side := by
        refine' AbW.df_mk KX G ?a ?l ?c ?k
        (case a => k_is); (case l => k_is); (case c => k_is); (case k => k_is)
      have d_is_rule : AbW.Df (abHead.heap_39 w.params) mg "is_rule" "is_rule" AbW.s_is_rule := by
        refine' AbW.df_mk KX G ?a ?l ?c ?k
        (case a => k_is); (case l => k_is); (case c => k_is); (case k => k_is)
      have d_is_net : AbW.Df (abHead.heap_39 w.params) mg "is_net" "is_net" AbW.s_is_net := by
        refine' AbW.df_mk KX G ?a ?l ?c ?k
        (case a => k_is); (case l => k_is); (case c => k_is); (case k => k_is)
      have d_is_times : AbW.Df (abHead.heap_39 w.params) mg "is_times" "is_times" AbW.s_is_times := by
        refine' AbW.df_mk KX G ?a ?l ?c ?k
        (case a => k_is); (case l => k_is); (case c => k_is); (case k => k_is)
      have d_check_net_nets : AbW.Df (abHead.heap_39 w.params) mg "check_net_nets" "check_net" AbW.s_check_net_nets := by
        refine' AbW.df_mk KX G ?a ?l ?c ?k
        (case a => k_is); (case l => k_is); (case c => k_is); (case k => k_is)
      have d_check_times_nets : AbW.Df (abHead.heap_39 w.params) mg "check_times_nets" "check_times" AbW.s_check_times_nets := by
        refine' AbW.df_mk KX G ?a ?l ?c ?k
        (case a => k_is); (case l => k_is); (case c => k_is); (case k => k_is)
      have d_excess_of : AbW.Df (abHead.heap_39 w.params) mg "excess_of" "excess_of" AbW.s_excess_of := by
        refine' AbW.df_mk KX G ?a ?l ?c ?k
        (case a => k_is); (case l => k_is); (case c => k_is); (case k => k_is)
      have d_all_hold : AbW.Df (abHead.heap_39 w.params) mg "all_hold" "all_hold" AbW.s_all_hold := by
        refine' AbW.df_mk KX G ?a ?l ?c ?k
        (case a => k_is); (case l => k_is); (case c => k_is); (case k => k_is)
      have d_keeps : AbW.Df (abHead.heap_39 w.params) mg "keeps" "keeps" AbW.s_keeps := by
        refine' AbW.df_mk KX G ?a ?l ?c ?k
        (case a => k_is); (case l => k_is); (case c => k_is); (case k => k_is)
      have d_edges_of : AbW.Df (abHead.heap_39 w.params) mg "edges_of" "edges_of" AbW.s_edges_of := by
        refine' AbW.df_mk KX G ?a ?l ?c ?k
        (case a => k_is); (case l => k_is); (case c => k_is); (case k => k_is)
      have d_is_integer : AbW.Df (abHead.heap_39 w.params) mg "is_integer" "is_integer" AbW.s_is_integer := by
        refine' AbW.df_mk KX G ?a ?l ?c ?k
        (case a => k_is); (case l => k_is); (case c => k_is); (case k => k_is)
      have d_check_net_bounds : AbW.Df (abHead.heap_39 w.params) mg "check_net_bounds" "check_net" AbW.s_check_net_bounds := by
        refine' AbW.df_mk KX G ?a ?l ?c ?k
        (case a => k_is); (case l => k_is); (case c => k_is); (case k => k_is)
      have d_longer_walks : AbW.Df (abHead.heap_39 w.params) mg "longer_walks" "longer_walks" AbW.s_longer_walks := by
        refine' AbW.df_mk KX G ?a ?l ?c ?k
        (case a => k_is); (case l => k_is); (case c => k_is); (case k => k_is)
      have d_first_round : AbW.Df (abHead.heap_39 w.params) mg "first_round" "first_round" AbW.s_first_round := by
        refine' AbW.df_mk KX G ?a ?l ?c ?k
        (case a => k_is); (case l => k_is); (case c => k_is); (case k => k_is)
      have d_shortest_walks : AbW.Df (abHead.heap_39 w.params) mg "shortest_walks" "shortest_walks" AbW.s_shortest_walks := by
        refine' AbW.df_mk KX G ?a ?l ?c ?k
        (case a => k_is); (case l => k_is); (case c => k_is); (case k => k_is)
      have d_with_walk : AbW.Df (abHead.heap_39 w.params) mg "with_walk" "with_walk" AbW.s_with_walk := by
        refine' AbW.df_mk KX G ?a ?l ?c ?k
        (case a => k_is); (case l => k_is); (case c => k_is); (case k => k_is)
      have d_bounds_of : AbW.Df (abHead.heap_39 w.params) mg "bounds_of" "bounds_of" AbW.s_bounds_of := by
        refine' AbW.df_mk KX G ?a ?l ?c ?k
        (case a => k_is); (case l => k_is); (case c => k_is); (case k => k_is)
      have d_known_bounds : AbW.Df (abHead.heap_39 w.params) mg "known_bounds" "known_bounds" AbW.s_known_bounds := by
        refine' AbW.df_mk KX G ?a ?l ?c ?k
        (case a => k_is); (case l => k_is); (case c => k_is); (case k => k_is)
      have d_check_times_repair : AbW.Df (abHead.heap_39 w.params) mg "check_times_repair" "check_times" AbW.s_check_times_repair := by
        refine' AbW.df_mk KX G ?a ?l ?c ?k
        (case a => k_is); (case l => k_is); (case c => k_is); (case k => k_is)
      have d_is_event_time : AbW.Df (abHead.heap_39 w.params) mg "is_event_time" "is_event_time" AbW.s_is_event_time := by
        refine' AbW.df_mk KX G ?a ?l ?c ?k
        (case a => k_is); (case l => k_is); (case c => k_is); (case k => k_is)
      have d_is_step : AbW.Df (abHead.heap_39 w.params) mg "is_step" "is_step" AbW.s_is_step := by
        refine' AbW.df_mk KX G ?a ?l ?c ?k
        (case a => k_is); (case l => k_is); (case c => k_is); (case k => k_is)
      have d_are_steps : AbW.Df (abHead.heap_39 w.params) mg "are_steps" "are_steps" AbW.s_are_steps := by
        refine' AbW.df_mk KX G ?a ?l ?c ?k
        (case a => k_is); (case l => k_is); (case c => k_is); (case k => k_is)
      have d_check_steps : AbW.Df (abHead.heap_39 w.params) mg "check_steps" "check_steps" AbW.s_check_steps := by
        refine' AbW.df_mk KX G ?a ?l ?c ?k
        (case a => k_is); (case l => k_is); (case c => k_is); (case k => k_is)
      have d_do_commute : AbW.Df (abHead.heap_39 w.params) mg "do_commute" "do_commute" AbW.s_do_commute := by
        refine' AbW.df_mk KX G ?a ?l ?c ?k
        (case a => k_is); (case l => k_is); (case c => k_is); (case k => k_is)
      have d_commute : AbW.Df (abHead.heap_39 w.params) mg "commute" "commute" AbW.s_commute := by
        refine' AbW.df_mk KX G ?a ?l ?c ?k
        (case a => k_is); (case l => k_is); (case c => k_is); (case k => k_is)
      have d_step_moved : AbW.Df (abHead.heap_39 w.params) mg "step_moved" "step_moved" AbW.s_step_moved := by
        refine' AbW.df_mk KX G ?a ?l ?c ?k
        (case a => k_is); (case l => k_is); (case c => k_is); (case k => k_is)
      have d_stepped : AbW.Df (abHead.heap_39 w.params) mg "stepped" "stepped" AbW.s_stepped := by
        refine' AbW.df_mk KX G ?a ?l ?c ?k
        (case a => k_is); (case l => k_is); (case c => k_is); (case k => k_is)
      have d_law_stream : AbW.Df (abHead.heap_39 w.params) mg "_law_stream" "_law_stream" AbW.s_law_stream := by
        refine' AbW.df_mk KX G ?a ?l ?c ?k
        (case a => k_is); (case l => k_is); (case c => k_is); (case k => k_is)
      have d_law_next : AbW.Df (abHead.heap_39 w.params) mg "_law_next" "_law_next" AbW.s_law_next := by
        refine' AbW.df_mk KX G ?a ?l ?c ?k
        (case a => k_is); (case l => k_is); (case c => k_is); (case k => k_is)
      have d_law_net : AbW.Df (abHead.heap_39 w.params) mg "_law_net" "_law_net" AbW.s_law_net := by
        refine' AbW.df_mk KX G ?a ?l ?c ?k
        (case a => k_is); (case l => k_is); (case c => k_is); (case k => k_is)
      have d_law_apart : AbW.Df (abHead.heap_39 w.params) mg "_law_apart" "_law_apart" AbW.s_law_apart := by
        refine' AbW.df_mk KX G ?a ?l ?c ?k
        (case a => k_is); (case l => k_is); (case c => k_is); (case k => k_is)
      refine' AbW.law_mk KX G hmg gb gc d_is_between d_is_side d_is_rule d_is_net d_is_times d_check_net_nets d_check_times_nets d_excess_of d_all_hold d_keeps d_edges_of d_is_integer d_check_net_bounds d_longer_walks d_first_round d_shortest_walks d_with_walk d_bounds_of d_known_bounds d_check_times_repair d_is_event_time d_is_step d_are_steps d_check_steps d_do_commute d_commute d_step_moved d_stepped d_law_stream d_law_next d_law_net d_law_apart ?a ?l ?c ?k
      (case a => k_is); (case l => k_is); (case c => k_is); (case k => k_is))
#print axioms PySem.Challenge.cw_allbide_k41_whole_what_commuting_does_holds
