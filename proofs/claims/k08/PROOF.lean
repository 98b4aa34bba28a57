import PyProof.Rows.All
import Wide.All
import OpenK.AllK
import Wide.FinOn
import HandS.ForMost
import HandS.TupSets
import HandS.SortRule
import HandS.Conv
import HandS.SortKw
import KE.KSortTupG
import HandS.More
import KE.KDictPairs
import KE.KDictKeyed
import HandS.TupAny
import HandS.Deep
import HandS.Walk
import HandS.SortInts
import PySem.Challenge.RW_partedweb_k08_whole_cuts_beside_owners
set_option Elab.async false
set_option linter.all false
set_option maxRecDepth 100000
set_option maxHeartbeats 4000000
/-! Webs, in plain Lean: places that hang together, partings, pieces, owners, names. -/
namespace K8
abbrev Tie := Int × Int × Int
def prOf (t : Tie) : Int × Int := (t.1, t.2.1)
/-- tied to each other -/
def Adj (ts : List Tie) (x y : Int) : Prop := ∃ t ∈ ts, (t.1 = x ∧ t.2.1 = y) ∨ (t.1 = y ∧ t.2.1 = x)
theorem Adj.symm {ts : List Tie} {x y : Int} (h : Adj ts x y) : Adj ts y x := by
  obtain ⟨t, m, c⟩ := h
  exact ⟨t, m, c.symm⟩
theorem Adj.mono {ts us : List Tie} {x y : Int} (h : Adj ts x y) (s : ∀ t ∈ ts, t ∈ us) : Adj us x y := by
  obtain ⟨t, m, c⟩ := h
  exact ⟨t, s t m, c⟩
/-- hanging together -/
inductive Reach (ts : List Tie) (x : Int) : Int → Prop
  | here : Reach ts x x
  | next {y z : Int} : Reach ts x y → Adj ts y z → Reach ts x z
theorem Reach.trans {ts : List Tie} {x y z : Int} (a : Reach ts x y) (b : Reach ts y z) : Reach ts x z := by
  induction b with
  | here => exact a
  | next _ c ih => exact .next ih c
theorem Reach.symm {ts : List Tie} {x y : Int} (a : Reach ts x y) : Reach ts y x := by
  induction a with
  | here => exact .here
  | next _ c ih => exact (Reach.next .here c.symm).trans ih
/-- what is closed under ties keeps what hangs together -/
theorem Reach.keeps {ts : List Tie} {x y : Int} (a : Reach ts x y) {S : Int → Prop} (hx : S x) (hs : ∀ u v, S u → Adj ts u v → S v) : S y := by
  induction a with
  | here => exact hx
  | next _ c ih => exact hs _ _ ih c
theorem Reach.same {ts : List Tie} {x y : Int} (a : Reach ts x y) {β : Type} (f : Int → β) (h : ∀ t ∈ ts, f t.1 = f t.2.1) : f x = f y := by
  refine Reach.keeps (S := fun z => f x = f z) a rfl fun u v hu hv => ?_
  obtain ⟨t, m, c | c⟩ := hv
  · rw [hu, ← c.1, ← c.2, h t m]
  · rw [hu, ← c.1, ← c.2, h t m]
theorem Reach.mono {ts us : List Tie} {x y : Int} (a : Reach ts x y) (s : ∀ t ∈ ts, t ∈ us) : Reach us x y := by
  induction a with
  | here => exact .here
  | next _ c ih => exact .next ih (c.mono s)
theorem Reach.iff_of {ts : List Tie} {x y z : Int} (a : Reach ts x y) : Reach ts x z ↔ Reach ts y z := ⟨fun h => a.symm.trans h, fun h => a.trans h⟩
/-- a web's ties: places within, weights from nought on -/
def WebR (n : Int) (ts : List Tie) : Prop := ∀ t ∈ ts, (0 ≤ t.1 ∧ t.1 < n) ∧ (0 ≤ t.2.1 ∧ t.2.1 < n) ∧ 0 ≤ t.2.2
theorem WebR.adj {n : Int} {ts : List Tie} (h : WebR n ts) {x y : Int} (a : Adj ts x y) : 0 ≤ y ∧ y < n := by
  obtain ⟨t, m, c | c⟩ := a
  · rw [← c.2]; exact (h t m).2.1
  · rw [← c.1]; exact (h t m).1
theorem WebR.reach {n : Int} {ts : List Tie} (h : WebR n ts) {x y : Int} (hx : 0 ≤ x ∧ x < n) (a : Reach ts x y) : 0 ≤ y ∧ y < n :=
  Reach.keeps (S := fun z => 0 ≤ z ∧ z < n) a hx fun _ _ _ q => h.adj q

/-! ### cuts -/
def kept (ts : List Tie) (cut : List (Int × Int)) : List Tie := ts.filter fun t => !decide (prOf t ∈ cut)
def wsum (ts : List Tie) (cut : List (Int × Int)) : Int := ((ts.filter fun t => decide (prOf t ∈ cut)).map (·.2.2)).sum
theorem mem_kept {ts : List Tie} {cut : List (Int × Int)} {t : Tie} : t ∈ kept ts cut ↔ t ∈ ts ∧ prOf t ∉ cut := by
  unfold kept
  rw [List.mem_filter]
  simp
theorem WebR.kept {n : Int} {ts : List Tie} (h : WebR n ts) (cut : List (Int × Int)) : WebR n (kept ts cut) := fun t m => h t (mem_kept.mp m).1
theorem kept_congr {ts : List Tie} {c d : List (Int × Int)} (h : ∀ p, p ∈ c ↔ p ∈ d) : kept ts c = kept ts d := by
  unfold kept
  refine List.filter_congr fun t _ => ?_
  rw [Bool.eq_iff_iff]
  simp [h]
theorem wsum_congr {ts : List Tie} {c d : List (Int × Int)} (h : ∀ p, p ∈ c ↔ p ∈ d) : wsum ts c = wsum ts d := by
  unfold wsum
  congr 2
  refine List.filter_congr fun t _ => ?_
  rw [Bool.eq_iff_iff]
  simp [h]
theorem wsum_le {ts : List Tie} {c d : List (Int × Int)} (hw : ∀ t ∈ ts, 0 ≤ t.2.2) (h : ∀ p ∈ c, p ∈ d) : wsum ts c ≤ wsum ts d := by
  induction ts with
  | nil => exact Int.le_refl _
  | cons t r ih =>
    have ih' := ih fun u m => hw u (List.mem_cons_of_mem _ m)
    have h0 := hw t List.mem_cons_self
    unfold wsum at ih' ⊢
    rw [List.filter_cons, List.filter_cons]
    by_cases h1 : prOf t ∈ c
    · rw [if_pos (decide_eq_true h1), if_pos (decide_eq_true (h _ h1)), List.map_cons, List.map_cons, List.sum_cons, List.sum_cons]
      omega
    · rw [if_neg (by simpa using h1)]
      by_cases h2 : prOf t ∈ d
      · rw [if_pos (decide_eq_true h2), List.map_cons, List.sum_cons]
        omega
      · rw [if_neg (by simpa using h2)]
        exact ih'
/-- the last test of the law -/
theorem kept_twice {ts : List Tie} {left cut : List (Int × Int)} (h : ∀ p ∈ left, p ∈ cut) : kept (kept ts left) (cut.filter fun p => !decide (p ∈ left)) = kept ts cut := by
  unfold kept
  rw [List.filter_filter]
  refine List.filter_congr fun t _ => ?_
  rw [Bool.eq_iff_iff]
  have := h (prOf t)
  by_cases h1 : prOf t ∈ left
  · simp [h1, this h1]
  · by_cases h2 : prOf t ∈ cut
    · simp [h1, h2]
    · simp [h1, h2]

/-! ### partings -/
def Parting (ts : List Tie) (posts : List Int) : Prop := ∀ p ∈ posts, ∀ q ∈ posts, Reach ts p q → p = q
theorem two_of {α : Type} : ∀ {l : List α}, l.Nodup → 2 ≤ l.length → ∃ a b, a ∈ l ∧ b ∈ l ∧ a ≠ b
  | [], _, h => absurd h (by simp)
  | [_], _, h => absurd h (by simp)
  | a :: b :: r, nd, _ => ⟨a, b, by simp, by simp, fun e => by
    rw [e] at nd
    exact (List.nodup_cons.mp nd).1 List.mem_cons_self⟩
theorem one_of {α : Type} {l : List α} (h : l.length < 2) {a b : α} (ha : a ∈ l) (hb : b ∈ l) : a = b := by
  match l, h with
  | [], _ => cases ha
  | [x], _ =>
    rw [List.mem_singleton] at ha hb
    rw [ha, hb]
/-- the pieces of a web: each what hangs together with one place, all places in some -/
structure PiecesOk (n : Int) (ts : List Tie) (pss : List (List Int)) : Prop where
  ne : ∀ P ∈ pss, P ≠ []
  cls : ∀ P ∈ pss, ∃ x, (0 ≤ x ∧ x < n) ∧ ∀ y, y ∈ P ↔ Reach ts x y
  cov : ∀ x, 0 ≤ x → x < n → ∃ P ∈ pss, x ∈ P
theorem PiecesOk.range {n : Int} {ts : List Tie} {pss : List (List Int)} (W : WebR n ts) (K : PiecesOk n ts pss) {P : List Int} (hP : P ∈ pss) {y : Int} (hy : y ∈ P) : 0 ≤ y ∧ y < n := by
  obtain ⟨x, hx, c⟩ := K.cls P hP
  exact W.reach hx ((c y).mp hy)
theorem PiecesOk.like {n : Int} {ts : List Tie} {pss : List (List Int)} (K : PiecesOk n ts pss) {x y : Int} (a : Reach ts x y) {P : List Int} (hP : P ∈ pss) : x ∈ P ↔ y ∈ P := by
  obtain ⟨z, _, c⟩ := K.cls P hP
  rw [c, c]
  exact ⟨fun h => h.trans a, fun h => h.trans a.symm⟩
def postsIn (posts P : List Int) : List Int := posts.filter fun p => decide (p ∈ P)
theorem PiecesOk.parting {n : Int} {ts : List Tie} {pss : List (List Int)} {posts : List Int} (K : PiecesOk n ts pss) (nd : posts.Nodup) (hr : ∀ p ∈ posts, 0 ≤ p ∧ p < n) :
    (∀ P ∈ pss, (postsIn posts P).length < 2) ↔ Parting ts posts := by
  constructor
  · intro h p hp q hq a
    obtain ⟨P, hP, m⟩ := K.cov p (hr p hp).1 (hr p hp).2
    refine one_of (h P hP) (a := p) (b := q) ?_ ?_
    · exact List.mem_filter.mpr ⟨hp, decide_eq_true m⟩
    · exact List.mem_filter.mpr ⟨hq, decide_eq_true ((K.like a hP).mp m)⟩
  · intro h P hP
    rcases Nat.lt_or_ge (postsIn posts P).length 2 with c | c
    · exact c
    · exfalso
      obtain ⟨a, b, ha, hb, ne⟩ := two_of (nd.sublist List.filter_sublist) c
      obtain ⟨h1, h2⟩ := List.mem_filter.mp ha
      obtain ⟨h3, h4⟩ := List.mem_filter.mp hb
      obtain ⟨x, _, cl⟩ := K.cls P hP
      exact ne (h a h1 b h3 (((cl a).mp (of_decide_eq_true h2)).symm.trans ((cl b).mp (of_decide_eq_true h4))))

/-! ### owners -/
/-- o tells each place's owner: the post with which it hangs together, or d -/
structure OwnOk (n : Int) (ts : List Tie) (posts : List Int) (d : Int) (o : Int → Int) : Prop where
  post : ∀ x, 0 ≤ x → x < n → ∀ p ∈ posts, Reach ts p x → o x = p
  rest : ∀ x, 0 ≤ x → x < n → (∀ p ∈ posts, ¬ Reach ts p x) → o x = d
theorem OwnOk.same {n : Int} {ts : List Tie} {posts : List Int} {d : Int} {o : Int → Int} (O : OwnOk n ts posts d o) (W : WebR n ts) {x y : Int} (hx : 0 ≤ x ∧ x < n) (a : Reach ts x y) : o x = o y := by
  have hy := W.reach hx a
  by_cases h : ∃ p, p ∈ posts ∧ Reach ts p x
  · obtain ⟨p, hp, r⟩ := h
    rw [O.post x hx.1 hx.2 p hp r, O.post y hy.1 hy.2 p hp (r.trans a)]
  · have h1 : ∀ p ∈ posts, ¬ Reach ts p x := fun p hp r => h ⟨p, hp, r⟩
    rw [O.rest x hx.1 hx.2 h1, O.rest y hy.1 hy.2 fun p hp r => h1 p hp (r.trans a.symm)]
/-- the pairs of the cut by owners -/
def cutBy (ts : List Tie) (o : Int → Int) : List (Int × Int) := (ts.filter fun t => !decide (o t.1 = o t.2.1)).map prOf
theorem mem_cutBy {ts : List Tie} {o : Int → Int} {p : Int × Int} : p ∈ cutBy ts o ↔ ∃ t ∈ ts, prOf t = p ∧ o t.1 ≠ o t.2.1 := by
  unfold cutBy
  rw [List.mem_map]
  constructor
  · rintro ⟨t, m, e⟩
    obtain ⟨m1, m2⟩ := List.mem_filter.mp m
    exact ⟨t, m1, e, by simpa using m2⟩
  · rintro ⟨t, m, e, h⟩
    exact ⟨t, List.mem_filter.mpr ⟨m, by simpa using h⟩, e⟩
theorem cutBy_sub {n : Int} {ts : List Tie} {cut : List (Int × Int)} {posts : List Int} {d : Int} {o : Int → Int} (W : WebR n ts) (O : OwnOk n (kept ts cut) posts d o) : ∀ p ∈ cutBy ts o, p ∈ cut := by
  intro p hp
  obtain ⟨t, m, e, h⟩ := mem_cutBy.mp hp
  by_cases c : prOf t ∈ cut
  · rw [← e]; exact c
  · exfalso
    exact h (O.same (W.kept cut) (W t m).1 (.next .here ⟨t, mem_kept.mpr ⟨m, c⟩, .inl ⟨rfl, rfl⟩⟩))
theorem cutBy_parting {n : Int} {ts us : List Tie} {posts : List Int} {d : Int} {o : Int → Int} (hr : ∀ p ∈ posts, 0 ≤ p ∧ p < n) (O : OwnOk n us posts d o) : Parting (kept ts (cutBy ts o)) posts := by
  intro p hp q hq a
  have e := a.same o fun t m => by
    obtain ⟨m1, m2⟩ := mem_kept.mp m
    by_cases c : o t.1 = o t.2.1
    · exact c
    · exact absurd (mem_cutBy.mpr ⟨t, m1, rfl, c⟩) m2
  rwa [O.post p (hr p hp).1 (hr p hp).2 p hp .here, O.post q (hr q hq).1 (hr q hq).2 q hq .here] at e

/-! ### names: the number of the last piece that has the place -/
def nameAt (pss : List (List Int)) : Nat → Int → Int
  | 0, _ => 0
  | k + 1, x => if x ∈ pss.getD k [] then (k : Int) else nameAt pss k x
theorem nameAt_like {pss : List (List Int)} {x y : Int} (h : ∀ P ∈ pss, (x ∈ P ↔ y ∈ P)) : ∀ k, nameAt pss k x = nameAt pss k y
  | 0 => rfl
  | k + 1 => by
    have e : (x ∈ pss.getD k []) ↔ (y ∈ pss.getD k []) := by
      rw [List.getD_eq_getElem?_getD]
      cases q : pss[k]? with
      | none => simp
      | some P => exact h P (List.mem_of_getElem? q)
    unfold nameAt
    rw [nameAt_like h k]
    by_cases c : x ∈ pss.getD k []
    · rw [if_pos c, if_pos (e.mp c)]
    · rw [if_neg c, if_neg fun z => c (e.mpr z)]
theorem nameAt_nonneg (pss : List (List Int)) (x : Int) : ∀ k, 0 ≤ nameAt pss k x
  | 0 => Int.le_refl _
  | k + 1 => by
    unfold nameAt
    split
    · omega
    · exact nameAt_nonneg pss x k
/-- names tell ties apart that are cut alone; what is between weighs what the merged web weighs -/
theorem between_sum {n : Int} {ts : List Tie} {cut : List (Int × Int)} {pss : List (List Int)} (W : WebR n ts) (K : PiecesOk n (kept ts cut) pss) (k : Nat) :
    ((ts.filter fun t => !decide (nameAt pss k t.1 = nameAt pss k t.2.1)).map (·.2.2)).sum = wsum ts (cut.filter fun p => !decide (nameAt pss k p.1 = nameAt pss k p.2)) := by
  unfold wsum
  congr 2
  refine List.filter_congr fun t m => ?_
  rw [Bool.eq_iff_iff]
  by_cases c : nameAt pss k t.1 = nameAt pss k t.2.1
  · simp [c, prOf]
  · by_cases h : prOf t ∈ cut
    · have h' : (t.1, t.2.1) ∈ cut := h
      simp [c, h', prOf]
    · exfalso
      refine c (nameAt_like (fun P hP => K.like (.next .here ⟨t, mem_kept.mpr ⟨m, h⟩, .inl ⟨rfl, rfl⟩⟩) hP) k)
end K8

/-! Sets of tuples up to 300 tuples: each search ends, each table is laid anew with room (nothing is said of what is found twice). -/
namespace K8S
open PySem PySem.Spec PyProof.Rows L2

/-! ### the round i -> 5 i + 1 of a table of 512 slots, too -/
def Mk (m : Nat) : Prop := m = 7 ∨ m = 31 ∨ m = 127 ∨ m = 511
def orb (m : Nat) : Nat → Nat → List Nat
  | 0, _ => []
  | n + 1, x => x :: orb m n ((x * 5 + 1) % (m + 1))
theorem orb_all (m : Nat) (hm : Mk m) : ((List.range (m + 1)).all fun j => (orb m (m + 1) 0).contains j) = true := by
  rcases hm with e | e | e | e <;> subst e <;> decide +kernel
theorem lcg_next (m x : Nat) : ∀ k, lcgI m ((x * 5 + 1) % (m + 1)) k = lcgI m x (k + 1)
  | 0 => rfl
  | k + 1 => by
    have e := lcg_next m x k
    show (lcgI m ((x * 5 + 1) % (m + 1)) k * 5 + 1) % (m + 1) = (lcgI m x (k + 1) * 5 + 1) % (m + 1)
    rw [e]
theorem orb_mem (m : Nat) : ∀ n x j, j ∈ orb m n x → ∃ k, k < n ∧ lcgI m x k = j
  | 0, _, _, h => by cases h
  | n + 1, x, j, h => by
    rcases List.mem_cons.mp h with e | h
    · exact ⟨0, Nat.succ_pos _, e.symm⟩
    · obtain ⟨k, hk, e⟩ := orb_mem m n _ j h
      exact ⟨k + 1, Nat.succ_lt_succ hk, by rw [← lcg_next]; exact e⟩
theorem lcg_plus (m x a : Nat) : ∀ k, lcgI m (lcgI m x a) k = lcgI m x (a + k)
  | 0 => rfl
  | k + 1 => by
    have e := lcg_plus m x a k
    show (lcgI m (lcgI m x a) k * 5 + 1) % (m + 1) = (lcgI m x (a + k) * 5 + 1) % (m + 1)
    rw [e]
theorem lcg_back (m : Nat) (hm : Mk m) : lcgI m 0 (m + 1) = 0 := by
  rcases hm with e | e | e | e <;> subst e <;> decide +kernel
theorem lcg_meet {m i j : Nat} (hm : Mk m) (hi : i ≤ m) (hj : j ≤ m) : ∃ k, k ≤ m ∧ lcgI m i k = j := by
  have one : ∀ j, j ≤ m → ∃ k, k < m + 1 ∧ lcgI m 0 k = j := fun j hj => by
    have h := List.all_eq_true.mp (orb_all m hm) j (List.mem_range.mpr (Nat.lt_succ_of_le hj))
    exact orb_mem m (m + 1) 0 j (List.contains_iff_mem.mp h)
  obtain ⟨a, ha, ea⟩ := one i hi
  obtain ⟨b, hb, eb⟩ := one j hj
  subst ea
  by_cases c : a ≤ b
  · refine ⟨b - a, by omega, ?_⟩
    rw [lcg_plus, show a + (b - a) = b by omega, eb]
  · refine ⟨m + 1 - a + b, by omega, ?_⟩
    rw [lcg_plus, show a + (m + 1 - a + b) = (m + 1) + b by omega, ← lcg_plus, lcg_back m hm, eb]

/-! ### ways -/
theorem runs_meet {m : Nat} (hm : Mk m) (h : Int) {j : Nat} (hj : j ≤ m) : ∃ n, n ≤ m + 12 ∧ runI m (SetTable.bits h) n = j := by
  obtain ⟨k, hk, e⟩ := lcg_meet hm (runI_le m (SetTable.bits h) 12) hj
  exact ⟨12 + k, by omega, (runI_tail (bits_lt h) k).trans e⟩
theorem ways_meet {m : Nat} (hm : Mk m) (h : Int) {j : Nat} (hj : j ≤ m) : ∃ k, k < 10 * SetTable.turns m ∧ way m h k = j := by
  obtain ⟨n, hn, e⟩ := runs_meet hm h hj
  obtain ⟨k, hk, e2⟩ := run_nth m (SetTable.bits h) n
  exact ⟨k, by unfold SetTable.turns; omega, (congrArg SetTable.Probe.j e2).trans e⟩
theorem way_in (m : Nat) (h : Int) (k : Nat) : way m h k ≤ m := by
  have hi : SetTable.bits h % (m + 1) ≤ m := Nat.le_of_lt_succ (Nat.mod_lt _ (Nat.succ_pos _))
  have r := runEnd_bd hi
  have q : (nth m (runAt m (SetTable.bits h % (m + 1)) (SetTable.bits h)) k).j + (nth m (runAt m (SetTable.bits h % (m + 1)) (SetTable.bits h)) k).more ≤ m := nth_in k _ (by show SetTable.bits h % (m + 1) + (SetTable.runEnd m (SetTable.bits h % (m + 1)) - SetTable.bits h % (m + 1)) ≤ m; omega)
  exact Nat.le_trans (Nat.le_add_right _ _) q

/-! ### a table with n places taken -/
structure Tb (t : SetTable) (n : Nat) : Prop where
  ris : Ris t.place.toList
  dm : t.dummies = #[]
  sz : t.place.size = n
  mok : Mk t.mask
  bd : ∀ x ∈ t.place.toList, x ≤ t.mask
theorem Tb.fits {t : SetTable} {n : Nat} (T : Tb t n) (h : n ≤ t.mask) : t.fits n = true := by
  unfold SetTable.fits SetTable.fill
  rw [T.dm, T.sz]
  simpa using h
theorem Tb.free {t : SetTable} {n : Nat} (T : Tb t n) (hl : n ≤ t.mask) (h : Int) : ∃ K, K < 10 * SetTable.turns t.mask ∧ way t.mask h K ∉ t.place.toList ∧ ∀ k, k < K → way t.mask h k ∈ t.place.toList := by
  obtain ⟨j, hj, hn⟩ := st_missing t.place.toList (t.mask + 1) (by rw [Array.length_toList, T.sz]; omega)
  obtain ⟨k, hk, e⟩ := ways_meet T.mok h (Nat.le_of_lt_succ hj)
  obtain ⟨K, h1, h2, h3⟩ := st_least (p := fun k => way t.mask h k ∉ t.place.toList) k (by rw [e]; exact hn)
  exact ⟨K, Nat.lt_of_le_of_lt h1 hk, h2, fun k' hk' => Classical.byContradiction fun c => h3 k' hk' c⟩
theorem Tb.put {t : SetTable} {n j : Nat} (T : Tb t n) (hj : j ∉ t.place.toList) (hm : j ≤ t.mask) : Tb (t.put j).1 (n + 1) ∧ SetTable.below t.place j ≤ n := by
  obtain ⟨c1, _, _⟩ := below_cut T.ris j
  have hp : SetTable.below t.place j ≤ t.place.toList.length := by rw [Array.length_toList]; exact c1
  refine ⟨⟨ris_insert T.ris fun e => hj (List.mem_of_getElem? (by rw [Array.getElem?_toList]; exact e)), put_dm T.dm j, ?_, T.mok, fun x hx => ?_⟩, by rw [← T.sz]; exact c1⟩
  · rw [← Array.length_toList, put_place, len_ins _ hp, Array.length_toList, T.sz]
  · rw [put_place] at hx
    rcases mem_ins.mp hx with e | m
    · rw [e]; exact hm
    · exact T.bd x m
theorem Tb.fill {t : SetTable} {n : Nat} (T : Tb t n) : t.fill = n := by
  unfold SetTable.fill
  rw [T.dm, T.sz] <;> rfl

/-! ### laying anew -/
theorem fm_same {f g : Nat → Option (Nat × Nat)} : ∀ l : List Nat, (∀ k ∈ l, g k = f k) → l.filterMap g = l.filterMap f
  | [], _ => rfl
  | i :: r, h => by
    have ih := fm_same r fun k hk => h k (List.mem_cons_of_mem _ hk)
    rw [List.filterMap_cons, List.filterMap_cons, h i List.mem_cons_self, ih]
theorem fm_put {f g : Nat → Option (Nat × Nat)} {j : Nat} {v : Nat × Nat} : ∀ l : List Nat, l.Nodup → j ∈ l → f j = none → g j = some v → (∀ i, i ≠ j → g i = f i) → (l.filterMap g).Perm (v :: l.filterMap f)
  | [], _, h, _, _, _ => by cases h
  | i :: r, nd, h, hf, hg, hs => by
    obtain ⟨n1, n2⟩ := List.nodup_cons.mp nd
    by_cases e : i = j
    · subst e
      have er : r.filterMap g = r.filterMap f := fm_same r fun k hk => hs k fun z => n1 (z ▸ hk)
      rw [List.filterMap_cons_some hg, List.filterMap_cons_none hf, er]
    · have hr : j ∈ r := (List.mem_cons.mp h).resolve_left fun z => e z.symm
      have ih := fm_put r n2 hr hf hg hs
      cases q : f i with
      | none =>
        rw [List.filterMap_cons_none ((hs i e).trans q), List.filterMap_cons_none q]
        exact ih
      | some u =>
        rw [List.filterMap_cons_some ((hs i e).trans q), List.filterMap_cons_some q]
        exact (ih.cons u).trans (List.Perm.swap v u _)
theorem fm_full {f : Nat → Option (Nat × Nat)} : ∀ l : List Nat, (∀ j ∈ l, f j ≠ none) → (l.filterMap f).length = l.length
  | [], _ => rfl
  | i :: r, h => by
    have ih := fm_full r fun j hj => h j (List.mem_cons_of_mem _ hj)
    cases q : f i with
    | none => exact absurd q (h i List.mem_cons_self)
    | some u => rw [List.filterMap_cons_some q, List.length_cons, List.length_cons, ih]
/-- c hashes are laid in a table of m + 1 slots -/
structure Lay (m c : Nat) (owner : Array (Option Nat)) : Prop where
  sz : owner.size = m + 1
  pm : ((liveOf m owner).map (·.2)).Perm (List.range c)
theorem Lay.zero (m : Nat) : Lay m 0 (Array.replicate (m + 1) none) := by
  refine ⟨Array.size_replicate, ?_⟩
  have e : liveOf m (Array.replicate (m + 1) none) = [] := by
    unfold liveOf
    rw [List.filterMap_eq_nil_iff]
    intro j hj
    rw [Array.getD_eq_getD_getElem?, Array.getElem?_replicate, if_pos (List.mem_range.mp hj)] <;> rfl
  rw [e]
  exact List.Perm.refl _
theorem Lay.more {m c : Nat} (hm : Mk m) {owner : Array (Option Nat)} (L : Lay m c owner) (hc : c ≤ m) (h : Int) :
    ∃ j, SetTable.layClean.free m owner (SetTable.turns m) (SetTable.bits h % (m + 1)) (SetTable.bits h) = some j ∧ Lay m (c + 1) (owner.setIfInBounds j (some c)) := by
  have some_free : ∃ j, j ≤ m ∧ oAt owner j = none := by
    refine Classical.byContradiction fun no => ?_
    have hl := L.pm.length_eq
    rw [List.length_map, List.length_range] at hl
    have hf : (liveOf m owner).length = (List.range (m + 1)).length := fm_full _ fun j hj => by
      have hjm : j < owner.size := by rw [L.sz]; exact List.mem_range.mp hj
      rw [oAt_none hjm]
      intro e
      exact no ⟨j, Nat.le_of_lt_succ (List.mem_range.mp hj), Option.map_eq_none_iff.mp e⟩
    rw [List.length_range] at hf
    omega
  obtain ⟨j0, hj0, ej0⟩ := some_free
  obtain ⟨n, hn, e⟩ := runs_meet hm h hj0
  have hw : way m h (off m (SetTable.bits h % (m + 1)) (SetTable.bits h) n) = j0 := by
    have q := nth_off m n (SetTable.bits h % (m + 1)) (SetTable.bits h)
    rw [itL_run] at q
    exact (congrArg SetTable.Probe.j q).trans e
  obtain ⟨K, k1, k2, k3⟩ := st_least (p := fun k => oAt owner (way m h k) = none) (off m (SetTable.bits h % (m + 1)) (SetTable.bits h) n) (by rw [hw]; exact ej0)
  have hin := way_in m h K
  have hsz : way m h K < owner.size := by rw [L.sz]; exact Nat.lt_succ_of_le hin
  have full : ∀ k, k < K → (oAt owner (way m h k)).isNone = false := fun k hk => by
    cases z : oAt owner (way m h k) with
    | none => exact absurd z (k3 k hk)
    | some _ => rfl
  refine ⟨way m h K, free_spec m owner (SetTable.turns m) n _ _ K (by unfold SetTable.turns; omega) k1 full (by rw [show oAt owner (nth m (runAt m (SetTable.bits h % (m + 1)) (SetTable.bits h)) K).j = none from k2] <;> rfl), by rw [Array.size_setIfInBounds]; exact L.sz, ?_⟩
  have pm : (liveOf m (owner.setIfInBounds (way m h K) (some c))).Perm ((way m h K, c) :: liveOf m owner) := by
    refine fm_put (List.range (m + 1)) List.nodup_range (List.mem_range.mpr (Nat.lt_succ_of_le hin)) ?_ ?_ fun i hi => ?_
    · rw [oAt_none hsz, k2] <;> rfl
    · rw [oAt_none (by rw [Array.size_setIfInBounds]; exact hsz), oAt_set_self _ hsz] <;> rfl
    · have q : (owner.setIfInBounds (way m h K) (some c)).getD i none = owner.getD i none := by
        rw [Array.getD_eq_getD_getElem?, Array.getD_eq_getD_getElem?, Array.getElem?_setIfInBounds, if_neg fun z => hi z.symm]
      rw [q]
  refine (pm.map (·.2)).trans ?_
  rw [List.map_cons, List.range_succ]
  exact (L.pm.cons c).trans (List.perm_append_singleton c _).symm
theorem lay_fold {m : Nat} (hm : Mk m) : ∀ (hs : List Int) (c : Nat) (owner : Array (Option Nat)), Lay m c owner → c + hs.length ≤ m →
    ∃ o', hs.foldl (stepF m) (some (owner, c)) = some (o', c + hs.length) ∧ Lay m (c + hs.length) o'
  | [], c, owner, L, _ => ⟨owner, rfl, L⟩
  | h :: r, c, owner, L, hl => by
    rw [List.length_cons] at hl ⊢
    obtain ⟨j, e, L'⟩ := L.more hm (by omega) h
    obtain ⟨o', f, L2⟩ := lay_fold hm r (c + 1) _ L' (by omega)
    rw [show c + 1 + r.length = c + (r.length + 1) by omega] at f L2
    exact ⟨o', by rw [List.foldl_cons, stepF_some e]; exact f, L2⟩
theorem relaid_tb (t : SetTable) {hs : Array Int} {wanted M : Nat} (hw : SetTable.sizeAbove wanted - 1 = M) (hM : Mk M) (hn : hs.size ≤ M) :
    ∃ t' order, t.relaid hs wanted = some (t', order) ∧ order.toList.Perm (List.range hs.size) ∧ Tb t' hs.size ∧ t'.mask = M ∧ t'.led = t.led ∧ t'.plain = t.plain := by
  obtain ⟨o', f, L⟩ := lay_fold hM hs.toList 0 _ (Lay.zero M) (by rw [Array.length_toList]; omega)
  rw [Array.length_toList, Nat.zero_add] at f L
  have e : SetTable.layClean M hs = some o' := by rw [layClean_eq, f] <;> rfl
  have hl := L.pm.length_eq
  rw [List.length_map, List.length_range] at hl
  have r := ris_live (fun j => o'.getD j none) (List.range (M + 1)) List.pairwise_lt_range
  refine ⟨tabOf t M o', ((liveOf M o').map (·.2)).toArray, by rw [relaid_eq, hw, e] <;> rfl, L.pm, ⟨r.1, rfl, ?_, hM, fun x hx => ?_⟩, rfl, rfl, rfl⟩
  · show ((liveOf M o').map (·.1)).toArray.size = _
    rw [List.size_toArray, List.length_map, hl]
  · exact Nat.le_of_lt_succ (List.mem_range.mp (r.2 x hx))
theorem above_20 : SetTable.sizeAbove (SetTable.grown 5) = 32 := by decide +kernel
theorem above_76 : SetTable.sizeAbove (SetTable.grown 19) = 128 := by decide +kernel
theorem above_308 : SetTable.sizeAbove (SetTable.grown 77) = 512 := by decide +kernel
end K8S

/-! Sets of tuples: the search, adding, laying anew, over the model's own words. -/
namespace K8S
open PySem PySem.Spec PyProof.Rows L2

/-- a set of tuples of ints at a: its rows L in the table's order -/
structure SR (P : Program) (w : World) (h : Heap) (a : Addr) (L : List (Addr × List Int)) (es : Array (Int × Value)) (ep : Nat) (t : SetTable) : Prop where
  ob : ∃ o, h.get? a = some o ∧ o.ExactSet ∧ o.data = .set es ep t
  rows : es.toList = rowsOf P w L
  tab : Tb t L.length
  tup : ∀ p ∈ L, IsT P w h p.2 p.1
  pl : t.plain = true
  ld : w.params.followText "set-order" = true ∨ t.led = true
  room : L.length * 5 < t.mask * 3
section
variable {P : Program} {w : World} {A : Around} {E : Value → Shared → Prop} {s : Shared} {a : Addr} {L : List (Addr × List Int)} {es : Array (Int × Value)} {ep : Nat} {t : SetTable}
theorem rows_size (h : es.toList = rowsOf P w L) : es.size = L.length := by
  have q := congrArg List.length h
  rwa [Array.length_toList, rowsOf, List.length_map] at q
theorem rows_at (h : es.toList = rowsOf P w L) {i : Nat} {p : Addr × List Int} (hp : L[i]? = some p) : es[i]? = some (thash P w p.2, Value.ref p.1) := by
  rw [← Array.getElem?_toList, h, rowsOf, List.getElem?_map, hp] <;> rfl
theorem SR.fits (R : SR P w s.heap a L es ep t) : t.fits es.size = true := by
  rw [rows_size R.rows]
  exact R.tab.fits (by have := R.room; omega)
theorem SR.odd (R : SR P w s.heap a L es ep t) : ¬ t.gaveWay = true := by
  have e : t.mask % 2 = 1 := by rcases R.tab.mok with e | e | e | e <;> rw [e]
  unfold SetTable.gaveWay
  rw [e]
  decide
theorem nth_dummy (m : Nat) : ∀ (n : Nat) (p : SetTable.Probe), p.dummy = none → (nth m p n).dummy = none
  | 0, _, h => h
  | n + 1, p, h => nth_dummy m n (adv m p) (by unfold adv; split <;> exact h)

/-- behind a candidate that stands at row i -/
theorem cand_tail (R : SR P w s.heap a L es ep t) {x : Addr} {k : List Int} (hx : IsT P w s.heap k x) (hu : A.units < cLine) {fuel j i : Nat} {nx : SetTable.Probe} {Q : SetFound → Shared → Prop} (hi : t.place.toList[i]? = some j)
    (hin : k ∈ L.map (·.2) → Q (.there none) s) (hon : wpAny (model P w) A (setSearchFrom a (.ref x) (thash P w k) true fuel (some nx)) Q E s) :
    wpAny (model P w) A (searchRest a (.ref x) (thash P w k) true fuel es t j i nx) Q E s := by
  obtain ⟨o, ho, _, hd⟩ := R.ob
  have hil : i < L.length := by
    have := (List.getElem?_eq_some_iff.mp hi).1
    rwa [Array.length_toList, R.tab.sz] at this
  obtain ⟨p, hp⟩ : ∃ p, L[i]? = some p := ⟨_, List.getElem?_eq_getElem hil⟩
  have hm : p ∈ L := List.mem_of_getElem? hp
  unfold searchRest
  rw [rows_at R.rows hp]
  dsimp only
  refine wpAny_bind (wpAny_holding (wpAny_eqBool_tuple hu (R.tup p hm) hx (wpAny_bind (wpAny_setState_of ho hd R.fits ?_))))
  dsimp only
  by_cases c : p.2 = k
  · exact wp_if_pos (by simp [c]) (wpAny_pure (hin (List.mem_map.mpr ⟨p, hm, c⟩)))
  · refine wp_if_neg (by simp [c]) ?_
    try refine wpAny_bind (wpAny_pure ?_)
    rw [sameMem]
    dsimp only
    simp only [if_true, slot_live R.tab.ris hi, rows_at R.rows hp]
    refine wpAny_bind (wpAny_isSame_ref_self (wpAny_bind (wpAny_pure ?_)))
    simp only [if_true]
    exact wp_if_neg (by simp [c]) hon
/-- the search from the c-th step of its way on; K: the first free slot of the way -/
theorem search_on (R : SR P w s.heap a L es ep t) {x : Addr} {k : List Int} (hx : IsT P w s.heap k x) (hu : A.units < cLine) {K : Nat} (hKf : K < 10 * SetTable.turns t.mask)
    (hK : way t.mask (thash P w k) K ∉ t.place.toList) (hb : ∀ c, c < K → way t.mask (thash P w k) c ∈ t.place.toList) {Q : SetFound → Shared → Prop}
    (hin : k ∈ L.map (·.2) → Q (.there none) s) (hout : Q (.free (way t.mask (thash P w k) K) false) s) :
    ∀ (f c : Nat) (st : Option SetTable.Probe), st.getD (t.probeStart (thash P w k)) = nth t.mask (t.probeStart (thash P w k)) c → c ≤ K → K - c < f → wpAny (model P w) A (setSearchFrom a (.ref x) (thash P w k) true f st) Q E s
  | 0, _, _, _, _, hf => absurd hf (Nat.not_lt_zero _)
  | f + 1, c, st, hst, hc, hf => by
    obtain ⟨o, ho, _, hd⟩ := R.ob
    rw [setSearchFrom_succ]
    refine wpAny_bind (wpAny_setState_of ho hd R.fits ?_)
    dsimp only
    refine wp_if_neg R.odd ?_
    try refine wpAny_bind (wpAny_pure ?_)
    have sh : ∀ q, nth t.mask (nth t.mask (t.probeStart (thash P w k)) c) q = nth t.mask (t.probeStart (thash P w k)) (c + q) := fun q => (nth_add t.mask c _ q).symm
    have wy : ∀ q, (nth t.mask (nth t.mask (t.probeStart (thash P w k)) c) q).j = way t.mask (thash P w k) (c + q) := fun q => congrArg SetTable.Probe.j (sh q)
    have g := go_spec t R.tab.ris R.tab.dm (fun i => (es[i]?.map (·.1)).getD 0) (thash P w k) (10 * SetTable.turns t.mask) (K - c) (nth t.mask (t.probeStart (thash P w k)) c)
      (nth_dummy _ _ _ rfl) (by omega) (fun q hq => by rw [wy]; exact hb _ (by omega)) (by rw [wy, show c + (K - c) = K by omega]; exact hK)
    rw [hst]
    rcases g with ⟨q, i, hq, hi, _, _, e⟩ | ⟨_, e⟩
    · have e' : t.probe (fun i => (es[i]?.map (·.1)).getD 0) (thash P w k) (nth t.mask (t.probeStart (thash P w k)) c) = _ := e
      rw [e']
      dsimp only
      have rest := cand_tail (E := E) (fuel := f) (nx := nth t.mask (nth t.mask (t.probeStart (thash P w k)) c) (q + 1)) R hx hu hi hin
        (search_on R hx hu hKf hK hb hin hout f (c + (q + 1)) _ (sh (q + 1)) (by omega) (by omega))
      by_cases hl : t.led = true
      · refine wp_if_neg (by simp [hl]) ?_
        try refine wpAny_bind (wpAny_pure ?_)
        exact rest
      · refine wp_if_pos (by simp [hl]) (wpAny_bind (seen_tup hx (fun y hy => ?_) ?_))
        · obtain ⟨r, hr, rfl⟩ := List.mem_map.mp hy
          have hr2 : r ∈ es.toList := by
            have := hr
            simp only [Array.toList_filter, List.mem_filter] at this
            exact this.1
          rw [R.rows] at hr2
          obtain ⟨p, hp, rfl⟩ := List.mem_map.mp hr2
          exact ⟨p.2, p.1, rfl, R.tup p hp⟩
        · refine wp_if_neg (by decide) ?_
          try refine wpAny_bind (wpAny_pure ?_)
          exact rest
    · have e' : t.probe (fun i => (es[i]?.map (·.1)).getD 0) (thash P w k) (nth t.mask (t.probeStart (thash P w k)) c) = _ := e
      rw [e', wy, show c + (K - c) = K by omega]
      dsimp only
      exact wpAny_pure hout
theorem search_ends (R : SR P w s.heap a L es ep t) {x : Addr} {k : List Int} (hx : IsT P w s.heap k x) (hu : A.units < cLine) {Q : SetFound → Shared → Prop}
    (hin : k ∈ L.map (·.2) → Q (.there none) s) (hout : ∀ j, j ∉ t.place.toList → j ≤ t.mask → Q (.free j false) s) : wpAny (model P w) A (setSearch a (.ref x) (thash P w k) true) Q E s := by
  obtain ⟨K, hKf, hK, hb⟩ := R.tab.free (by have := R.room; omega) (thash P w k)
  have big : 10 * SetTable.turns t.mask ≤ 6000 := by
    unfold SetTable.turns
    rcases R.tab.mok with e | e | e | e <;> omega
  exact search_on R hx hu hKf hK hb hin (hout _ hK (way_in _ _ _)) 100000 0 none rfl (Nat.zero_le _) (by omega)

/-! ### laying anew, adding -/
theorem relay_ok {o : Obj} (ho : s.heap.get? a = some o) (hex : o.ExactSet) (hd : o.data = .set es ep t) (hrows : es.toList = rowsOf P w L) (T : Tb t L.length) (hfl : L.length ≤ t.mask)
    (tup : ∀ p ∈ L, IsT P w s.heap p.2 p.1) (pl : t.plain = true) (ld : w.params.followText "set-order" = true ∨ t.led = true) {wanted M : Nat}
    (hw : SetTable.sizeAbove wanted - 1 = M) (hM : Mk M) (hw2 : SetTable.sizeAbove wanted ≤ 512) (hn : L.length * 5 < M * 3) {Q : Unit → Shared → Prop}
    (hQ : ∀ h' L' es' ep' t', Heap.SameBut a s.heap h' → SR P w h' a L' es' ep' t' → L'.Perm L → Q () { s with heap := h' }) : wpAny (model P w) A (setRelay a wanted) Q E s := by
  have hsl : es.size = L.length := rows_size hrows
  obtain ⟨t', order, e, hp, T', em, el, ep2⟩ := relaid_tb t (hs := es.map (·.1)) hw hM (by rw [Array.size_map, hsl]; omega)
  rw [Array.size_map, hsl] at hp T'
  obtain ⟨L2, r1, r2, _⟩ := order_rows L es order hrows hp
  have hs2 : (order.filterMap (es[·]?)).size = L.length := (rows_size r1).trans r2.length_eq
  have hle : L.length ≤ 400 := by
    have : M ≤ 511 := by omega
    omega
  rw [setRelay_eq]
  refine wpAny_bind (wpAny_setState_of ho hd (by rw [hsl]; exact T.fits hfl) ?_)
  dsimp only
  refine wp_if_neg (by rw [sizeLine_eq]; omega) ?_
  try refine wpAny_bind (wpAny_pure ?_)
  rw [e]
  dsimp only
  refine wpAny_bind (wp_if_neg (by rw [hs2, hsl]; simp) ?_)
  try refine wpAny_bind (wpAny_pure ?_)
  refine wpAny_pure ?_
  dsimp only
  refine wpAny_storeSet_of ho hd ?_ (by rw [hs2, sizeLine_eq]; omega)
  have sb : Heap.SameBut a s.heap (s.heap.update a (Obj.putSet (order.filterMap (es[·]?)) t')) := Heap.SameBut.update ..
  refine hQ _ L2 (order.filterMap (es[·]?)) (ep + 1) t' sb ⟨⟨_, store_at ho hd, ⟨hex.1, hex.2.1, hex.2.2⟩, rfl⟩, r1, by rw [r2.length_eq]; exact T', fun p hpm => isT_same (tup p (r2.mem_iff.mp hpm)) ho hd sb, ep2.trans pl, ?_, ?_⟩ r2
  · rw [el]; exact ld
  · rw [r2.length_eq, em]; exact hn
theorem add_ok (R : SR P w s.heap a L es ep t) {x : Addr} {k : List Int} (hx : IsT P w s.heap k x) (hu : A.units < cLine) (hfew : L.length < 300) {Q : Bool → Shared → Prop}
    (hQ : ∀ b h' L' es' ep' t', Heap.SameBut a s.heap h' → SR P w h' a L' es' ep' t' → ((L' = L ∧ k ∈ L.map (·.2)) ∨ L'.Perm ((x, k) :: L)) → Q b { s with heap := h' }) :
    wpAny (model P w) A (setAddHashed a (.ref x) (thash P w k)) Q E s := by
  obtain ⟨o, ho, hex, hd⟩ := R.ob
  have hsl := rows_size R.rows
  have hroom := R.room
  unfold setAddHashed
  refine wpAny_holding ?_
  rw [show (100000 : Nat) = 99999 + 1 from rfl, setAddHashedIn_succ]
  refine wpAny_bind (wpAny_setState_of ho hd R.fits ?_)
  dsimp only
  refine wp_if_neg (by simp [byScan, Value.scannable]) ?_
  try refine wpAny_bind (wpAny_pure ?_)
  refine wpAny_bind (search_ends R hx hu (fun hm => ?_) fun j hj hjm => ?_)
  · dsimp only
    exact wpAny_pure (hQ false s.heap L es ep t (Heap.SameBut.refl a s.heap) R (.inl ⟨rfl, hm⟩))
  · dsimp only
    refine wpAny_bind (wpAny_setState_of ho hd R.fits ?_)
    dsimp only
    obtain ⟨T1, hpl⟩ := R.tab.put hj hjm
    have hpt2 : (t.put j).2 = SetTable.below t.place j := rfl
    have em : (t.put j).1.mask = t.mask := rfl
    have hp1 : (t.put j).1.plain = true := R.pl
    have hl1 : w.params.followText "set-order" = true ∨ (t.put j).1.led = true := R.ld
    generalize t.put j = pt at T1 hpt2 em hp1 hl1 ⊢
    obtain ⟨t1, p⟩ := pt
    dsimp only at T1 hpt2 em hp1 hl1 ⊢
    rw [← hpt2] at hpl
    first
      | (refine wpAny_bind ?_; refine wp_if_pos hp1 ?_; refine hashBy_tup hx ?_)
      | refine wp_if_pos hp1 (wpAny_bind (hashBy_tup hx ?_))
    simp only [if_true]
    have hin : (SetTable.insertAt es p (thash P w k, Value.ref x)).toList = rowsOf P w (L.take p ++ (x, k) :: L.drop p) := by
      rw [SetTable.toList_insertAt, rows_put, R.rows]
    have pm := put_perm L p (x, k)
    have hlen : (L.take p ++ (x, k) :: L.drop p).length = L.length + 1 := pm.length_eq
    generalize SetTable.insertAt es p (thash P w k, Value.ref x) = es1 at hin ⊢
    generalize L.take p ++ (x, k) :: L.drop p = L1 at pm hlen hin
    have hes : es1.size = L.length + 1 := (rows_size hin).trans hlen
    refine wpAny_bind (wpAny_storeSet_of ho hd ?_ (by rw [hes, sizeLine_eq]; omega))
    have sb : Heap.SameBut a s.heap (s.heap.update a (Obj.putSet es1 t1)) := Heap.SameBut.update ..
    have ho1 := store_at (es' := es1) (t' := t1) ho hd
    generalize s.heap.update a (Obj.putSet es1 t1) = h1 at sb ho1 ⊢
    have tup1 : ∀ p ∈ L1, IsT P w h1 p.2 p.1 := fun p hp => by
      rcases List.mem_cons.mp (pm.mem_iff.mp hp) with e | hp
      · rw [e]; exact isT_same hx ho hd sb
      · exact isT_same (R.tup p hp) ho hd sb
    rw [← hlen] at T1
    have hfill : t1.fill = L.length + 1 := T1.fill.trans hlen
    by_cases hf : t1.tooFull = true
    · first
        | (refine wpAny_bind ?_; refine wp_if_pos (by simp [hf]) ?_)
        | (refine wp_if_pos (by simp [hf]) ?_; refine wpAny_bind ?_)
      have hfull : (L.length + 1) * 5 ≥ t.mask * 3 := by
        have h := hf
        unfold SetTable.tooFull at h
        rwa [decide_eq_true_eq, hfill, em] at h
      rw [hsl]
      have go : ∀ M, SetTable.sizeAbove (SetTable.grown (L.length + 1)) - 1 = M → Mk M → SetTable.sizeAbove (SetTable.grown (L.length + 1)) ≤ 512 → (L.length + 1) * 5 < M * 3 →
          wpAny (model P w) A (setRelay a (SetTable.grown (L.length + 1))) (fun _ s' => wpAny (model P w) A (pure true) Q E s') E { s with heap := h1 } := fun M c1 c2 c3 c4 =>
        relay_ok (s := { s with heap := h1 }) ho1 ⟨hex.1, hex.2.1, hex.2.2⟩ rfl hin T1 (by rw [hlen, em]; omega) tup1 hp1 hl1 c1 c2 c3 (by rw [hlen]; exact c4) fun h2 L2 es2 ep2 t2 sb2 R2 pm2 =>
          wpAny_pure (hQ true h2 L2 es2 ep2 t2 (sb.trans sb2) R2 (.inr (pm2.trans pm)))
      rcases R.tab.mok with e | e | e | e
      · have en : L.length = 4 := by omega
        exact go 31 (by rw [en, above_20]) (.inr (.inl rfl)) (by rw [en, above_20]; decide) (by omega)
      · have en : L.length = 18 := by omega
        exact go 127 (by rw [en, above_76]) (.inr (.inr (.inl rfl))) (by rw [en, above_76]; decide) (by omega)
      · have en : L.length = 76 := by omega
        exact go 511 (by rw [en, above_308]) (.inr (.inr (.inr rfl))) (by rw [en, above_308]; decide) (by omega)
      · exact absurd hfull (by omega)
    · first
        | refine wp_if_neg (by simp [hf]) ?_
        | (refine wpAny_bind ?_; refine wp_if_neg (by simp [hf]) ?_; refine wpAny_pure ?_)
      refine wpAny_pure (hQ true h1 L1 es1 (ep + 1) t1 sb ⟨⟨_, ho1, ⟨hex.1, hex.2.1, hex.2.2⟩, rfl⟩, hin, T1, tup1, hp1, hl1, ?_⟩ (.inr pm))
      have h := hf
      unfold SetTable.tooFull at h
      rw [decide_eq_true_eq, hfill] at h
      rw [hlen]
      omega
end
end K8S

/-! set(xs) of a list of tuples of ints, sorted(set). -/
namespace K8S
open PySem PySem.Spec PyProof.Rows L2

/-- the set's rows behind the first i items -/
structure Has (ks : List (Addr × List Int)) (i : Nat) (L : List (Addr × List Int)) : Prop where
  sub : ∀ p ∈ L, p ∈ ks
  all : ∀ p ∈ ks.take i, p.2 ∈ L.map (·.2)
  len : L.length ≤ i
theorem Has.more {ks L L' : List (Addr × List Int)} {i : Nat} {p : Addr × List Int} (g : Has ks i L) (h : ks[i]? = some p) (c : (L' = L ∧ p.2 ∈ L.map (·.2)) ∨ L'.Perm (p :: L)) : Has ks (i + 1) L' := by
  have ht : ks.take (i + 1) = ks.take i ++ [p] := by rw [List.take_succ, h] <;> rfl
  rcases c with ⟨rfl, hm⟩ | pm
  · refine ⟨g.sub, fun q hq => ?_, Nat.le_succ_of_le g.len⟩
    rw [ht] at hq
    rcases List.mem_append.mp hq with z | z
    · exact g.all q z
    · rw [List.mem_singleton.mp z]; exact hm
  · refine ⟨fun q hq => ?_, fun q hq => ?_, by rw [pm.length_eq, List.length_cons]; exact Nat.succ_le_succ g.len⟩
    · rcases List.mem_cons.mp (pm.mem_iff.mp hq) with e | z
      · rw [e]; exact List.mem_of_getElem? h
      · exact g.sub q z
    · rw [(pm.map (·.2)).mem_iff, List.map_cons]
      rw [ht] at hq
      rcases List.mem_append.mp hq with z | z
      · exact List.mem_cons_of_mem _ (g.all q z)
      · rw [List.mem_singleton.mp z]; exact List.mem_cons_self

section
variable {P : Program} {w : World} {A : Around} {E : Value → Shared → Prop} {s : Shared}
theorem SR.stay {h h' : Heap} {a : Addr} {L : List (Addr × List Int)} {es : Array (Int × Value)} {ep : Nat} {t : SetTable} (R : SR P w h a L es ep t) (ha : ∀ o, h.get? a = some o → h'.get? a = some o) (ht : ∀ p ∈ L, IsT P w h' p.2 p.1) : SR P w h' a L es ep t := by
  obtain ⟨o, ho, r⟩ := R.ob
  exact ⟨⟨o, ha o ho, r⟩, R.rows, R.tab, ht, R.pl, R.ld, R.room⟩
theorem SR.fresh {h : Heap} {a : Addr} (ho : h.get? a = some { cls := .type "set", dict := none, data := .set #[] 0 (.fresh 0 0 (!w.params.followText "set-order")) }) : SR P w h a [] #[] 0 (.fresh 0 0 (!w.params.followText "set-order")) := by
  refine ⟨⟨_, ho, ⟨rfl, rfl, rfl⟩, rfl⟩, rfl, ⟨List.Pairwise.nil, rfl, rfl, .inl rfl, fun x hx => (by cases hx)⟩, fun p hp => (by cases hp), rfl, ?_, by show 0 * 5 < 7 * 3; decide⟩
  show _ ∨ (!w.params.followText "set-order") = true
  cases w.params.followText "set-order"
  · exact .inr rfl
  · exact .inl rfl

theorem fill_loop {I : Addr} {fp wr : List Addr} {G : Array GenState → Array GenState → Prop} {n : Nat} {Pv : Nat → Value → Prop} {St : Nat → Shared → Prop} {R : Result → Shared → Prop}
    (W : WalksS P w A.in1 I fp wr G n Pv St) (S : Addr) (hSf : S ∉ fp) (ks : List (Addr × List Int)) (hn : n = ks.length) (hfew : ks.length ≤ 300) (hval : ∀ i v, Pv i v → ∃ p, ks[i]? = some p ∧ v = .ref p.1)
    (h0 : Heap) (hk : ∀ p ∈ ks, IsT P w h0 p.2 p.1) (hS0 : h0.get? S = none) (hw0 : ∀ b ∈ wr, h0.get? b = none) (hu : A.in1.units < cLine) :
    ∀ (d i : Nat) (s : Shared), n - i = d → i ≤ n → St i s → (∀ b o, h0.get? b = some o → s.heap.get? b = some o) → (∃ L es ep t, SR P w s.heap S L es ep t ∧ Has ks i L) →
      (∀ s' L es ep t, Moved (S :: wr) G s s' → SR P w s'.heap S L es ep t → Has ks n L → (∀ b o, h0.get? b = some o → s'.heap.get? b = some o) → R (.ok (.ret .none)) s') →
      codeAny (model P w) A (.builtin "set.update.loop" ⟨[.ref S, .ref I], []⟩) R s := by
  have hSw : S ∉ wr := fun h => hSf (W.sub _ h)
  have keepM : ∀ {s s' : Shared}, Moved wr G s s' → (∀ b o, h0.get? b = some o → s.heap.get? b = some o) → ∀ b o, h0.get? b = some o → s'.heap.get? b = some o := fun hm hkp b o e =>
    hm.heap b o (fun hb => by rw [hw0 b hb] at e; cases e) (hkp b o e)
  have keepT : ∀ {h : Heap} {L : List (Addr × List Int)} {i : Nat}, Has ks i L → (∀ b o, h0.get? b = some o → h.get? b = some o) → ∀ p ∈ L, IsT P w h p.2 p.1 := fun g k p hp => isT_keep (hk p (g.sub p hp)) k
  intro d
  induction d with
  | zero =>
    rintro i s hd hi hst hkp ⟨L, es, ep, t, hS, g⟩ hR
    obtain rfl : i = n := by omega
    refine codeAny_builtin F.entry_set_update_loop ?_
    rw [Around.under_plainId F.plain_set_update_loop _]
    show wpAny _ A.in1 (pyNext (.ref I) >>= _) _ _ s
    refine wpAny_bind (W.done s _ _ hst fun s' hm => ?_)
    show wpAny _ A.in1 (ret Value.none) _ _ s'
    have hkp' := keepM hm hkp
    exact wpAny_pure (hR s' L es ep t (hm.mono fun b hb => List.mem_cons_of_mem _ hb) (hS.stay (fun o e => hm.heap S o hSw e) (keepT g hkp')) g hkp')
  | succ d ih =>
    rintro i s hd hi hst hkp ⟨L, es, ep, t, hS, g⟩ hR
    have hlt : i < n := by omega
    refine codeAny_builtin F.entry_set_update_loop ?_
    rw [Around.under_plainId F.plain_set_update_loop _]
    show wpAny _ A.in1 (pyNext (.ref I) >>= _) _ _ s
    refine wpAny_bind (W.item i s _ _ hlt hst fun v s' hP hst' hm => ?_)
    obtain ⟨p, hp, rfl⟩ := hval i v hP
    have hkp' := keepM hm hkp
    have hS' : SR P w s'.heap S L es ep t := hS.stay (fun o e => hm.heap S o hSw e) (keepT g hkp')
    have hx : IsT P w s'.heap p.2 p.1 := isT_keep (hk p (List.mem_of_getElem? hp)) hkp'
    show wpAny _ A.in1 (holding [Value.ref p.1] (setAdd S (.ref p.1)) >>= _) _ _ s'
    refine wpAny_bind (wpAny_holding ?_)
    unfold setAdd
    refine wpAny_holding (wpAny_bind (wpAny_pyHash_tuple hu hx ?_))
    refine add_ok (s := { s' with toks := s'.toks + (p.2.length + 1) }) hS' hx hu (by have := g.len; omega) fun b h' L' es' ep' t' hsb hS2 c => ?_
    have hne : ∀ b ∈ fp, b ≠ S := fun b hb z => hSf (z ▸ hb)
    have hkp2 : ∀ b o, h0.get? b = some o → h'.get? b = some o := fun b o e => (hsb.2 b (fun z => by rw [z, hS0] at e; cases e)).trans (hkp' b o e)
    refine wpAny_pure ⟨plainId_quiet F.plain_set_update_loop _, ih (i + 1) _ (by omega) hlt (W.frame _ s' _ _ hst' (Nat.le_add_right _ _) fun b hb o e => (hsb.2 b (hne b hb)).trans e) hkp2 ⟨L', es', ep', t', hS2, g.more hp c⟩ fun s'' L2 es2 ep2 t2 hm'' hS'' g'' hkp'' => ?_⟩
    exact hR s'' L2 es2 ep2 t2 (Moved.trans W.gtrans ((hm.mono fun b hb => List.mem_cons_of_mem _ hb).then_heap (Nat.le_add_right _ _) fun b o hb e => (hsb.2 b fun z => hb (z ▸ List.mem_cons_self)).trans e) hm'') hS'' g'' hkp''

/-- the empty set as it is made -/
abbrev nset (w : World) : Obj := { cls := .type "set", dict := none, data := .set #[] 0 (.fresh 0 0 (!w.params.followText "set-order")) }
/-- set(xs) -/
theorem set_of_list {l : Addr} {items : Array Value} (ks : List (Addr × List Int)) {Q : Value → Shared → Prop} (hh : A.handled = none) (hl : s.heap.IsList l items) (hit : items.toList = ks.map fun p => Value.ref p.1)
    (hk : ∀ p ∈ ks, IsT P w s.heap p.2 p.1) (hfew : ks.length ≤ 300) (hu : A.units + 3 < cLine)
    (h : ∀ (h' : Heap) (tk : Nat) L es ep t, SR P w h' s.heap.objs.size L es ep t → Has ks ks.length L → (∀ b o, s.heap.get? b = some o → h'.get? b = some o) → Q (.ref s.heap.objs.size) { s with heap := h', toks := tk }) :
    wpAny (model P w) A (call (.type "set") [.ref l]) Q E s := by
  have hisz : items.size = ks.length := by
    have q := congrArg List.length hit
    rwa [Array.length_toList, List.length_map] at q
  obtain ⟨c, tl, hmro⟩ := F.called_set.mro
  have hmade := F.called_set.made
  have hsub := F.called_set.sub
  refine wpAny_call (codeAny_of_tree ?_)
  show wpAny _ _ (callAny (.type "set") _) _ _ _
  refine wpAny_pure ⟨Code.quiet_builtin _ (by decide +kernel), codeAny_builtin F.entry_type_call ?_⟩
  rw [Around.under_plain (weight_type_call_type "set" [.ref l] []) rfl]
  have h1 := F.called_set.notType
  have h2 := F.called_set.canCreate
  have hct := F.typeCall_set_1 (.ref l)
  repeat (any_goals (first | assumption | wp_step))
  refine codeAny_mono (code_set_led1 (.ref l) (E := E) (Q₁ := fun obj s₁ => obj = .ref s.heap.objs.size ∧ s₁ = { s with heap := s.heap.push (nset w) }) ⟨rfl, rfl⟩) fun r s₁ hr => ?_
  cases r with
  | error e => exact hr
  | ok fl =>
    cases fl with
    | ret obj =>
      obtain ⟨rfl, rfl⟩ := hr
      have hS : (s.heap.push (nset w)).get? s.heap.objs.size = some (nset w) := Heap.get?_push_size _ rfl
      have hT : Shared.TypeIs { s with heap := s.heap.push (nset w) } (.ref s.heap.objs.size) "set" := ⟨_, hS, rfl⟩
      have hli := F.called_set.init.lookup
      have hbi := F.called_set.init.bind (.ref s.heap.objs.size)
      repeat (any_goals (first | assumption | wp_step))
      refine codeAny_mono (codeAny_call_builtin (R := wants (fun r s₂ => r = .none ∧ ∃ h' tk L es ep t, s₂ = { s with heap := h', toks := tk } ∧ SR P w h' s.heap.objs.size L es ep t ∧ Has ks ks.length L ∧
          (∀ b o, s.heap.get? b = some o → h'.get? b = some o)) E) F.called_set.init.plain F.entry_set_init (check_set_init_1 hT ?_)) fun r₂ s₂ hr₂ => ?_
      · obtain ⟨⟨ocls, odict, odata, oslots⟩, hol, hcl, nl, hdl⟩ := hl
        simp only at hcl hdl
        subst hcl; subst hdl
        have hol' : (s.heap.push (nset w)).get? l = some { cls := .type "list", dict := odict, data := .seq items nl, slots := oslots } := Heap.get?_push_of_some _ hol
        have hsls := F.sub_list_set
        have hslf := F.sub_list_frozenset
        have hne : (Value.type "list" == Value.type "dict") = false := by decide
        have hl1 : (s.heap.push (nset w)).IsList l items := ⟨_, hol', rfl, nl, rfl⟩
        unfold Builtin.«set.__init__» noKeywords Builtin.Frozenset.updateFrom
        generalize hPI : pyIter = PI
        wp_walk
        subst hPI
        dsimp only
        refine wpAny_pyIter_list hl1 ?_
        refine wpAny_bind (wpAny_runValue ?_)
        have hlS : l < s.heap.objs.size := Heap.lt_size hol
        have hz1 : (s.heap.push (nset w)).objs.size = s.heap.objs.size + 1 := Heap.size_push ..
        have none_of : ∀ b, s.heap.objs.size ≤ b → s.heap.get? b = none := fun b hb => by
          cases q : s.heap.get? b with
          | none => rfl
          | some o => exact absurd (Heap.lt_size q) (Nat.not_lt.mpr hb)
        have hneI : l ≠ (s.heap.push (nset w)).objs.size := by rw [hz1]; exact Nat.ne_of_lt (Nat.lt_succ_of_lt hlS)
        have hSf : s.heap.objs.size ∉ [(s.heap.push (nset w)).objs.size, l] := by
          rw [hz1]
          intro z
          rcases List.mem_cons.mp z with z | z
          · exact absurd z (Nat.ne_of_lt (Nat.lt_succ_self _))
          · exact absurd (List.mem_singleton.mp z) (Nat.ne_of_gt hlS)
        refine fill_loop ((Walks.list (by simp [hh]) _ l hneI items).toS) s.heap.objs.size hSf ks hisz hfew (fun i v hv => ?_) s.heap hk (none_of _ (Nat.le_refl _)) (fun b hb => none_of b (by rw [List.mem_singleton.mp hb, hz1]; exact Nat.le_succ _))
          hu (items.size - 0) 0 _ rfl (Nat.zero_le _) ⟨⟨_, Heap.get?_push_size _ rfl, rfl, rfl⟩, hl1.push _⟩ (fun b o e => Heap.get?_push_of_some _ (Heap.get?_push_of_some _ e)) ⟨[], #[], 0, _, SR.fresh (Heap.get?_push_of_some _ hS), ⟨(fun _ z => by cases z), (fun _ z => by cases z), Nat.le_refl _⟩⟩ ?_
        · have q : items.toList[i]? = some v := by rw [Array.getElem?_toList]; exact hv
          rw [hit, List.getElem?_map] at q
          obtain ⟨p, e1, e2⟩ := Option.map_eq_some_iff.mp q
          exact ⟨p, e1, e2.symm⟩
        · rintro ⟨h', g2, d', tk', os'⟩ L es ep t hm hS' g' hkp
          obtain rfl : g2 = s.gens := hm.gens
          obtain rfl : d' = s.drawn := hm.drawn
          obtain rfl : os' = s.os := hm.os
          show wpAny _ _ _ _ _ _
          refine wpAny_pure ?_
          show wpAny _ _ (ret Value.none) _ _ _
          rw [hisz] at g'
          exact wpAny_pure ⟨rfl, h', tk', L, es, ep, t, rfl, hS', g', hkp⟩
      · cases r₂ with
        | error e => exact hr₂
        | ok fl₂ =>
          cases fl₂ with
          | ret r =>
            obtain ⟨rfl, h', tk, L, es, ep, t, rfl, hS', g', hk'⟩ := hr₂
            repeat (any_goals (first | assumption | wp_step))
            exact h _ _ _ _ _ _ hS' g' hk'
          | _ => exact hr₂.elim
    | _ => exact hr.elim
end
/-- what is mapped to a rearranged list can be rearranged so -/
theorem perm_back {α β : Type} {f : α → β} : ∀ {l : List α} {out : List β}, out.Perm (l.map f) → ∃ l' : List α, out = l'.map f ∧ l'.Perm l := by
  intro l out h
  generalize hm : l.map f = m at h
  induction h generalizing l with
  | nil => exact ⟨l, hm.symm, List.Perm.refl _⟩
  | @cons x o m' h ih =>
    match l, hm with
    | [], hm => cases hm
    | y :: r, hm =>
      rw [List.map_cons] at hm
      injection hm with e1 e2
      obtain ⟨l', e, p⟩ := ih e2
      exact ⟨y :: l', by rw [List.map_cons, e, e1], p.cons y⟩
  | swap x y o =>
    match l, hm with
    | [], hm => cases hm
    | [_], hm => cases hm
    | u :: v :: r, hm =>
      rw [List.map_cons, List.map_cons] at hm
      injection hm with e1 e2
      injection e2 with e2 e3
      exact ⟨v :: u :: r, by rw [List.map_cons, List.map_cons, e1, e2, e3], List.Perm.swap _ _ _⟩
  | trans _ _ ih1 ih2 =>
    obtain ⟨l2, e2, p2⟩ := ih2 hm
    obtain ⟨l1, e1, p1⟩ := ih1 e2.symm
    exact ⟨l1, e1, p1.trans p2⟩
end K8S

/-! Sorting of tuples of ints at any length: some rearrangement; of a set, of a dict's keys, by a key that a def gives. -/
namespace K8S
open PySem PySem.Spec PyProof.Rows L2

def sh0 : Nat → Bool := fun _ => false
theorem items_ints : ∀ {us : List Value} {ns : List Int}, IntsAre us ns → ∀ i, tupItems sh0 i us = some (ns.map Sum.inl)
  | _, _, .nil, _ => rfl
  | _, _, .cons n t h, i => by
    show (if sh0 i = true then none else (tupItems sh0 (i + 1) _).map (Sum.inl n :: ·)) = _
    rw [if_neg (show ¬ (sh0 i = true) from Bool.false_ne_true), items_ints h (i + 1)] <;> rfl
/-- a tuple of ints, one at least -/
def ITup (h : Heap) (v : Value) : Prop := ∃ a o us n ns, v = .ref a ∧ h.get? a = some o ∧ o.cls = .type "tuple" ∧ o.data = .seq us n ∧ IntsAre us.toList ns ∧ ns ≠ []
theorem ITup.keep {h h' : Heap} {v : Value} (x : ITup h v) (k : ∀ b o, h.get? b = some o → o.cls = .type "tuple" → h'.get? b = some o) : ITup h' v := by
  obtain ⟨a, o, us, n, ns, e, ho, hc, r⟩ := x
  exact ⟨a, o, us, n, ns, e, k a o ho hc, hc, r⟩
theorem ITup.key {h : Heap} {v : Value} (x : ITup h v) : ∃ l, G.tupKeyC h sh0 v = some l := by
  obtain ⟨a, o, us, n, ns, rfl, ho, hc, hd, hi, _⟩ := x
  refine ⟨ns.map Sum.inl, ?_⟩
  have e1 : G.isTupObj h (.ref a) = true := by simp [G.isTupObj, ho, hc]
  unfold G.tupKeyC
  rw [if_pos e1]
  simp only [tupKey, ho, hd]
  exact items_ints hi 0
theorem ITup.first {h : Heap} {v : Value} (x : ITup h v) : ∃ f, TupOf h sh0 v f := by
  obtain ⟨a, o, us, n, ns, rfl, ho, hc, hd, hi, hn⟩ := x
  obtain ⟨ul⟩ := us
  have hi' : IntsAre ul ns := hi
  cases hi' with
  | nil => exact absurd rfl hn
  | cons k t r => exact ⟨.int k t, a, o, _, n, rfl, ho, hc, hd, rfl, fun _ => ⟨k, t, rfl⟩, fun z => absurd z (by decide)⟩
theorem firsts {h : Heap} : ∀ {vs : List Value}, (∀ v ∈ vs, ITup h v) → ∃ fs, TupsOf h sh0 vs fs
  | [], _ => ⟨[], .nil⟩
  | v :: r, hv => by
    obtain ⟨f, hf⟩ := (hv v List.mem_cons_self).first
    obtain ⟨fs, hfs⟩ := firsts fun u hu => hv u (List.mem_cons_of_mem _ hu)
    exact ⟨f :: fs, .cons hf hfs⟩
theorem out_perm {xs : Array Keyed} {vs : List Value} (h : xs.Perm (pairsOf vs)) : (xs.map (·.2)).toList.Perm vs := by
  have q := (Array.perm_iff_toList_perm.mp h).map (fun p : Keyed => p.2)
  rw [pairsOf_toList, List.map_snd_zip (Nat.le_refl _)] at q
  rw [Array.toList_map]
  exact q
section
variable {prog : Program} {w : World} {A : Around} {E : Value → Shared → Prop} {s : Shared}
theorem sort_raw {a : Addr} {vs : List Value} {n : Nat} {P : PySem.Fin → Shared → Prop} (ho : s.heap.get? a = some (seqObj "list" vs.toArray n)) (ht : ∀ v ∈ vs, ITup s.heap v) (hL : vs.length ≤ sizeLine)
    (h : ∀ out : Array Value, out.toList.Perm vs → P (.done (.ret .none)) { s with heap := sortedHeap s.heap a vs out }) : wpAny (model prog w) A (Builtin.«list.sort» ⟨[.ref a], []⟩) P E s := by
  obtain ⟨fs, hf⟩ := firsts ht
  exact G.list_sort_tups ho hf (fun v hv => (ht v hv).key) hL fun st p _ _ => h _ (out_perm p)

/-- the call of list.sort on a new list, as sorted ends -/
theorem sort_new {X : Cx} {pins : List (Addr × Obj)} {σ : L2.St} {H : Hp} {s s1 : Shared} {Q : VK} {A' : Around} {E' : Value → Shared → Prop} (I : Inv X pins σ H s) (hk : ∀ b o, s.heap.get? b = some o → s1.heap.get? b = some o)
    (hg : s1.gens = s.gens) (ho : s1.os = s.os) {vs : List Value} {bs : List (Addr × List Int)} (e : vs = bs.map fun b => Value.ref b.1) (ht : ∀ v ∈ vs, ITup s.heap v) (hz : vs.length ≤ sizeLine)
    (q : ∀ (p : Addr) (bs' : List (Addr × List Int)), H p = none → bs'.Perm bs → Q (.ref p) (upd H p (.lst (bs'.map fun b => V.ref b.1)))) :
    wpAny (model X.prog X.w) A' (call (.builtin "list.sort") [.ref s1.heap.objs.size]) (fun _ s' => EP X pins σ Q (.ref s1.heap.objs.size) s') E' { s1 with heap := s1.heap.push (seqObj "list" vs.toArray 0) } := by
  have I1 : Inv X pins σ H { s with heap := s1.heap, gens := s1.gens, drawn := s1.drawn, toks := s1.toks } := I.call (ch := []) (Un.kept hk) (I.hok.kept hk) (by rw [hg]; exact I.bare) (fun _ z => by cases z)
  have es : s1 = { s with heap := s1.heap, gens := s1.gens, drawn := s1.drawn, toks := s1.toks } := by
    obtain ⟨h1, g1, d1, t1, o1⟩ := s1
    obtain rfl : o1 = s.os := ho
    rfl
  have hoL : (s1.heap.push (seqObj "list" vs.toArray 0)).get? s1.heap.objs.size = some (seqObj "list" vs.toArray 0) := Heap.get?_push_size _ rfl
  refine wpAny_call_entry PyProof.Rows.slot_list_sort ⟨_, hoL, rfl⟩ PyProof.Rows.entry_list_sort (sort_raw (s := { s1 with heap := s1.heap.push (seqObj "list" vs.toArray 0) }) hoL (fun v hv => (ht v hv).keep fun b o e _ => Heap.get?_push_of_some _ (hk b o e)) hz fun out pm => ⟨_, rfl, ?_⟩) (PyProof.Rows.args_list_sort _)
  obtain ⟨c, hc⟩ := sortedHeap_at (vs := vs) (out := out) hoL
  rw [e] at pm
  obtain ⟨bs', eb, pb⟩ := perm_back pm
  have hn : H s1.heap.objs.size = none := I1.hok.fresh (Nat.le_refl _)
  have kp : ∀ b o, s1.heap.get? b = some o → (sortedHeap (s1.heap.push (seqObj "list" vs.toArray 0)) s1.heap.objs.size vs out).get? b = some o := fun b o q1 => by
    have hlt := Heap.lt_size q1
    rw [sortedHeap_old (Nat.ne_of_lt hlt) (by rw [size_push']; exact Nat.lt_succ_of_lt hlt)]
    exact Heap.get?_push_of_some _ q1
  have hlen : (bs'.map fun b => V.ref b.1).length ≤ sizeLine := by
    rw [e, List.length_map] at hz
    rw [List.length_map, pb.length_eq]
    exact hz
  have hv : Vals (bs'.map fun b => V.ref b.1) out.toList := by rw [eb]; exact vals_of_refs bs'
  have J := I1.laid (a := s1.heap.objs.size) (o := .lst (bs'.map fun b => V.ref b.1)) (t' := s1.toks) kp (Nat.le_refl _) ⟨hlen, out.toList, c, hv, by rw [Array.toArray_toList]; exact hc⟩
  rw [es]
  exact ⟨.ref s1.heap.objs.size, _, J, rfl, q _ bs' hn pb⟩

/-! ### set(xs), sorted(set) -/
structure SetB (P : Program) (w : World) (h : Heap) (a : Addr) (L : List (Addr × List Int)) : Prop where
  ex : ∃ (es : Array (Int × Value)) (ep : Nat) (t : SetTable), (∃ o, h.get? a = some o ∧ o.ExactSet ∧ o.data = .set es ep t) ∧ es.toList = rowsOf P w L ∧ Tb t L.length ∧ (w.params.followText "set-order" = true ∨ t.led = true) ∧ L.length ≤ t.mask ∧ L.length ≤ 300
def SetBO (P : Program) (w : World) (a : Addr) (L : List (Addr × List Int)) : HO := .ext fun h => SetB P w h a L
theorem setBO_new {P : Program} {w : World} {H : Hp} {h : Heap} {a : Addr} {L : List (Addr × List Int)} (R : SetB P w h a L) : ObjOk P w H h a (SetBO P w a L) := by
  have ⟨es, ep, t, ⟨o, ho, r⟩, q⟩ := R.ex
  refine ⟨R, ⟨o, ho⟩, fun h1 h2 p k => ?_⟩
  have ⟨es', ep', t', ⟨o', ho', r'⟩, q'⟩ := SetB.ex p
  exact ⟨es', ep', t', ⟨o', k o' ho', r'⟩, q'⟩
end
section
variable {X : Cx}
theorem itup_of {pins : List (Addr × Obj)} {σ : L2.St} {H : Hp} {s : Shared} (I : Inv X pins σ H s) {b : Addr} {ns : List Int} (h : SqT X.K H b (ns.map V.int)) (hn : ns ≠ []) : ITup s.heap (.ref b) := by
  obtain ⟨its, r, ⟨o, ho, hc, n, hd⟩, _⟩ := I.tuple h
  exact ⟨b, o, its.toArray, n, ns, rfl, ho, hc, hd, intsAre_of r, hn⟩
def rSetB (K : PySem.W.Frag) (P : Program) (w : World) : List V → Hp → VK → Prop := fun xs H Q => ∃ (l : Addr) (ks : List (Addr × List Int)), xs = [V.ref l] ∧ SqL K H l (ks.map fun p => V.ref p.1) ∧ (∀ p ∈ ks, SqT K H p.1 (p.2.map V.int)) ∧ ks.length ≤ 300 ∧
  ∀ a L, H a = none → (∀ p ∈ L, p ∈ ks) → (∀ p ∈ ks, p.2 ∈ L.map (·.2)) → L.length ≤ ks.length → Q (.ref a) (upd H a (SetBO P w a L))
/-- set(xs), xs a list of tuples of ints, 300 at most -/
theorem cr_setB (hc : X.calm = true) (hu : X.A.units + 64 < cLine) : CallR X (.type "set") (rSetB X.K X.prog X.w) := by
  intro pins s σ H xs us Q I r h
  obtain ⟨l, ks, rfl, hl, hk, hf, q⟩ := h
  rw [Vals.ref1 r]
  obtain ⟨its, rv, pl, hz⟩ := I.list hl
  have hn : H s.heap.objs.size = none := I.hok.fresh (Nat.le_refl _)
  refine set_of_list (P := X.prog) (w := X.w) ks (I.ok.hd hc) pl.isList (refs_of_vals rv) (fun p hp => I.isT (hk p hp)) hf (by omega) fun h' tk L es ep t R g k => ?_
  have hsb : SetB X.prog X.w h' s.heap.objs.size L := ⟨es, ep, t, R.ob, R.rows, R.tab, R.ld, by have := R.room; omega, Nat.le_trans g.len hf⟩
  exact ⟨.ref s.heap.objs.size, upd H s.heap.objs.size (SetBO X.prog X.w s.heap.objs.size L), I.laid (t' := tk) k (Nat.le_refl _) (setBO_new hsb), rfl, q _ L hn g.sub (fun p hp => g.all p (by rw [List.take_length]; exact hp)) g.len⟩
def rSortB (K : PySem.W.Frag) (P : Program) (w : World) : List V → Hp → VK → Prop := fun vs H Q => ∃ (a : Addr) (L : List (Addr × List Int)), vs = [V.ref a] ∧ H a = some (SetBO P w a L) ∧ (∀ p ∈ L, SqT K H p.1 (p.2.map V.int) ∧ p.2 ≠ []) ∧
  ∀ p (bs : List (Addr × List Int)), H p = none → bs.Perm L → Q (.ref p) (upd H p (.lst (bs.map fun b => V.ref b.1)))
/-- sorted(set) of such a set -/
theorem cr_sortB (hc : X.calm = true) : CallR X (.builtin "sorted") (rSortB X.K X.prog X.w) := by
  intro pins s σ H vs us Q I r h
  obtain ⟨a, L, rfl, ha, hk, q⟩ := h
  rw [Vals.ref1 r]
  have R0 : SetB X.prog X.w s.heap a L := (I.hok a _ ha).1
  obtain ⟨es, ep, t, ⟨o, ho, hex, hd⟩, hrows, T, ld, hm, hf⟩ := R0.ex
  have hes : es.size = L.length := rows_size hrows
  refine Calls.call_function_entry kind_sorted plain_sorted entry_sorted (args_sorted1 _) ?_
  unfold Builtin.«sorted»
  refine wpAny_bind (m := checkCount "sorted" 1 1 _) (wpAny_pure ?_)
  refine wpAny_bind (collect_set (A := X.A.in1) (I.ok.hd hc) ⟨o, ho, hex.1, hd⟩ (by rw [hes]; exact T.fits hm) (by rw [hes]; unfold scanBound; omega) T.ris ld fun s1 vs k1 hz g1 o1 pm => ?_)
  have e1 : es.toList.map (·.2) = L.map fun b => Value.ref b.1 := by
    rw [hrows, rowsOf, List.map_map] <;> rfl
  rw [e1] at pm
  obtain ⟨L1, eL, pL⟩ := perm_back pm
  have hle : vs.length ≤ sizeLine := by rw [pm.length_eq, List.length_map, sizeLine_eq]; omega
  refine wpAny_bind (wpAny_newList ?_ hle)
  refine wpAny_bind (wpAny_holding (thn (sort_new I k1 g1 o1 eL (fun v hv => ?_) hle fun p bs hp pb => q p bs hp (pb.trans pL)) fun _ s' x => wpAny_pure ⟨_, rfl, x⟩))
  rw [eL] at hv
  obtain ⟨b, hb, rfl⟩ := List.mem_map.mp hv
  have hb2 := hk b (pL.mem_iff.mp hb)
  exact itup_of I hb2.1 hb2.2

/-! ### sorted(d), d a dict whose keys are tuples of ints -/
theorem keys_back {H : Hp} : ∀ {kvs : List (List Key × V)} {ks : List (List Key × Addr × Value)} {nss : List (List Int)}, KT H kvs ks → kvs.map (·.1) = nss.map (·.map Sum.inl) →
    ∃ bs : List (Addr × List Int), bs.map (·.2) = nss ∧ (∀ b ∈ bs, H b.1 = some (.tup (b.2.map V.int))) ∧ (ks.map fun x => Value.ref x.2.1) = bs.map fun b => Value.ref b.1
  | _, _, [], .nil, _ => ⟨[], rfl, (fun _ z => by cases z), rfl⟩
  | _, _, _ :: _, .nil, e => by cases e
  | _, _, [], .cons _ _, e => by cases e
  | p :: kvs, x :: ks, ns :: nss, .cons h t, e => by
    rw [List.map_cons, List.map_cons] at e
    injection e with e1 e2
    obtain ⟨bs, b1, b2, b3⟩ := keys_back t e2
    refine ⟨(x.2.1, ns) :: bs, by rw [List.map_cons, b1], fun b hb => ?_, by rw [List.map_cons, List.map_cons, b3]⟩
    rcases List.mem_cons.mp hb with rfl | hb
    · have h2 := h.2.1
      rw [e1, List.map_map] at h2
      exact h2
    · exact b2 b hb
def rSortDT : List V → Hp → VK → Prop := fun vs H Q => ∃ (d : Addr) (kvs : List (List Key × V)) (nss : List (List Int)), vs = [V.ref d] ∧ Rd H d (.dT kvs) ∧ kvs.map (·.1) = nss.map (·.map Sum.inl) ∧ (∀ ns ∈ nss, ns ≠ []) ∧
  ∀ p (bs : List (Addr × List Int)), H p = none → (bs.map (·.2)).Perm nss → (∀ b ∈ bs, H b.1 = some (.tup (b.2.map V.int))) → Q (.ref p) (upd H p (.lst (bs.map fun b => V.ref b.1)))
theorem cr_sortDT (hc : X.calm = true) : CallR X (.builtin "sorted") rSortDT := by
  intro pins s σ H vs us Q I r h
  obtain ⟨d, kvs, nss, rfl, hd, hks, hne, q⟩ := h
  rw [Vals.ref1 r]
  obtain ⟨z, hs, ks, pr, o, es, ep, ho, hx, hdt, he, hn⟩ := (show ObjOk X.prog X.w H s.heap d (.dT kvs) from hd.ok I.hok)
  have l1 : es.size = ks.length := size_of_entries he
  have l2 : kvs.length = ks.length := Paired.length pr
  obtain ⟨bs, b1, b2, b3⟩ := keys_back pr hks
  refine Calls.call_function_entry kind_sorted plain_sorted entry_sorted (args_sorted1 _) ?_
  unfold Builtin.«sorted»
  refine wpAny_bind (m := checkCount "sorted" 1 1 _) (wpAny_pure ?_)
  refine wpAny_bind (PySem.W.kdu_collect (A := X.A.in1) (kdl_raw hs hx hdt) (I.ok.hd hc) ho (by omega) fun h' tk acc kp it => ?_)
  have ea : acc.toList = bs.map fun b => Value.ref b.1 := by
    rw [← b3]
    apply List.ext_getElem?
    intro j
    rw [List.getElem?_map]
    have hl : acc.toList.length = ks.length := by rw [Array.length_toList, it.1]; exact l1
    cases hj : acc.toList[j]? with
    | none =>
      have h1 := List.getElem?_eq_none_iff.mp hj
      rw [List.getElem?_eq_none (by omega)] <;> rfl
    | some v =>
      obtain ⟨en, hen, rfl⟩ := it.2 j v (by rw [← Array.getElem?_toList]; exact hj)
      have qe := entry_at he j
      rw [hen] at qe
      cases hb : ks[j]? with
      | none => rw [hb] at qe; cases qe
      | some b =>
        rw [hb] at qe
        have e2 : en = entryOfKey (tupleKind (mixKind X.prog X.w)) b := Option.some.inj qe
        rw [e2] <;> rfl
  have hle : acc.toList.length ≤ sizeLine := by rw [Array.length_toList, it.1]; omega
  refine wpAny_bind (wpAny_newList ?_ hle)
  refine wpAny_bind (wpAny_holding (thn (sort_new (s1 := { s with heap := h', toks := tk }) I kp rfl rfl ea (fun v hv => ?_) hle fun p bs' hp pb => q p bs' hp (by rw [← b1]; exact pb.map _) fun b hb => b2 b (pb.mem_iff.mp hb)) fun _ s' x => wpAny_pure ⟨_, rfl, x⟩))
  rw [ea] at hv
  obtain ⟨b, hb, rfl⟩ := List.mem_map.mp hv
  exact itup_of I (SqT.of (b2 b hb)) (hne b.2 (by rw [← b1]; exact List.mem_map.mpr ⟨b, hb, rfl⟩))
end
end K8S

/-! sorted(xs, key=f), f a def of the text that gives a new tuple of ints: some rearrangement of xs, at any length. -/
namespace K8S
open PySem PySem.Spec PyProof.Rows L2
section
variable {X : Cx} {pins : List (Addr × Obj)} {σ : L2.St} {H : Hp} {s : Shared}
/-- an untracked object of ours is tracked from now on -/
theorem track {a : Addr} {o : HO} {h' : Heap} {tk : Nat} (I : Inv X pins σ H s) (f : FpOk X pins H a) (k : ∀ b u, b ≠ a → s.heap.get? b = some u → h'.get? b = some u) (ho : ∃ u, h'.get? a = some u)
    (new : ObjOk X.prog X.w (upd H a o) h' a o) : Inv X pins σ (upd H a o) { s with heap := h', toks := tk } := by
  obtain ⟨f0, f1, f2, f3, f4, f5⟩ := f
  have na : ∀ b u, H b = some u → b ≠ a := fun b u e z => by rw [z, f0] at e; cases e
  refine I.step (g' := s.gens) (d' := s.drawn) (ch := [a]) (fun b hb => ?_) (fun b u _ _ hc e _ => k b u (fun z => hc (by rw [z]; exact List.mem_cons_self)) e) (fun b u _ _ hc e _ => ⟨u.slots, k b u (fun z => hc (by rw [z]; exact List.mem_cons_self)) e⟩)
    (fun b u hc e n => by rw [upd_ne (fun z => hc (by rw [z]; exact List.mem_cons_self))]; exact n) (fun b u hc e => ⟨u, k b u (fun z => hc (by rw [z]; exact List.mem_cons_self)) e⟩)
    (fun b xs e => by rw [upd_ne (na b _ e)]; exact e) (fun b u xs e => by rw [upd_ne (na b _ e)]; exact e) (fun b ps e => ⟨#[], by rw [upd_ne (na b _ e), e, Array.append_empty]⟩) (fun m hm => ?_) (fun b u e => ?_) I.bare
  · rw [List.mem_singleton.mp hb]
    exact ⟨f3, f1, f4, f5⟩
  · obtain ⟨oL, es, ep, ho', r⟩ := hm
    exact ⟨oL, es, ep, k _ oL (Ne.symm f1) ho', r⟩
  · by_cases hb : b = a
    · subst hb
      rw [upd_same] at e
      cases e
      exact new
    · rw [upd_ne hb] at e
      refine (I.hok b u e).stay (fun c v hc q => k c v ?_ q) (fun c q => by rw [upd_ne (na c _ q)]; exact q) fun c xs q => by rw [upd_ne (na c _ q)]; exact q
      rcases hc with z | z
      · rw [z]; exact hb
      · exact na c _ z
/-- a def of the text called from within a built-in that a built-in calls -/
theorem call_in {k : Nat} {f : Addr} {fd : FuncData} {ps : List Str} {sp : Sp} {E' : Value → Shared → Prop} {Q : VK} {us : List Value} {vs : List V} (F : FnOk X.prog X.w X.K X.mg X.base CX0 k f fd ps sp) (hr : Room (k + 2) X.A) (hb : Binds X.K fd ps [])
    (I : Inv X pins σ H s) (r : Vals vs us) (h : sp vs H Q E0) : wpAny (model X.prog X.w) X.A.in1.in1 (call (.ref f) us) (EP X pins σ Q) E' s := by
  have hl : us.length = ps.length := by rw [← r.length]; exact F.len _ _ _ _ h
  have hbt := hb s us I.kIn (by rw [List.append_nil]; exact hl)
  rw [List.append_nil] at hbt
  refine wpAny_call (codeAny_mono (F.run X.A.in1.in1 X.stack s H ⟨us, []⟩ us vs Q E0 hr.in1.in1 I.env0.in1.in1 hbt r h) fun res s' hq => ?_)
  cases res with
  | error e => exact False.elim hq
  | ok fl =>
    cases fl with
    | ret u => exact I.after hq
    | next => exact False.elim hq
    | brk => exact False.elim hq
    | cont => exact False.elim hq

/-- what a key is: a tuple of ints -/
def KeyAt (H : Hp) (p : Addr) : Prop := ∃ ns : List Int, ns ≠ [] ∧ H p = some (.tup (ns.map V.int))
def rSortK (K : PySem.W.Frag) (sp : Sp) (f : Addr) : List V → List V → Hp → VK → Prop := fun vs zs H Q => ∃ (l : Addr) (bs : List Addr), vs = [V.ref l] ∧ zs = [V.ref f] ∧ SqL K H l (bs.map V.ref) ∧
  (∀ b ∈ bs, ∀ (H1 : Hp) (Q' : VK), Same H H1 → (∀ p H2, Same H1 H2 → KeyAt H2 p → Q' (.ref p) H2) → sp [.ref b] H1 Q' E0) ∧
  ∀ (H' : Hp) (p : Addr) (bs' : List Addr), Same H H' → H p = none → bs'.Perm bs → H' p = some (.lst (bs'.map V.ref)) → Q (.ref p) H'
theorem refs_of : ∀ {bs : List Addr} {us : List Value}, Vals (bs.map V.ref) us → us = bs.map Value.ref
  | [], _, .nil => rfl
  | b :: r, _, .cons h t => by
    cases h
    rw [refs_of t] <;> rfl
theorem key_itup (I : Inv X pins σ H s) {p : Addr} (h : KeyAt H p) : ITup s.heap (.ref p) := by
  obtain ⟨ns, hn, e⟩ := h
  exact itup_of I (SqT.of e) hn

/-- the end of the sort by keys -/
theorem key_tail {a kS : Addr} {e1 e0 : Nat} {keys : Array Value} {vs : List Value} {bs : List Addr} {st : SortSt} {A' : Around} {E' : Value → Shared → Prop} (I : Inv X (pins ++ [(a, seqObj "list" #[] e1), (kS, seqObj "list" keys e0)]) σ H s) (fa : FpOk X pins H a) (fk : FpOk X pins H kS) (hne : kS ≠ a)
    (hkl : keys.size ≤ sizeLine) (hz : bs.length ≤ sizeLine) (ev : vs = bs.map Value.ref) (hp : ((arrOf st).map (·.2)).toList.Perm vs) (hf : failedOf st = none) {R : PySem.Fin → Shared → Prop}
    (q : ∀ (bs' : List Addr) (s' : Shared), bs'.Perm bs → Inv X pins σ (upd H a (.lst (bs'.map V.ref))) s' → R (.done (.ret .none)) s') :
    wpAny (model X.prog X.w) A' (ksk_tail a false e1 (.ref kS) st) R E' s := by
  have pa := I.pin (a, seqObj "list" #[] e1) (by simp)
  have pk := I.pin (kS, seqObj "list" keys e0) (by simp)
  have I0 : Inv X pins σ H s := I.unpinned
  unfold ksk_tail
  try dsimp only
  refine wpAny_bind (listUpdate_at pk.1 rfl ?_ hkl (Nat.zero_le _))
  have s1 := Heap.SameBut.update s.heap kS (Obj.mapSeq fun _ => (#[] : Array Value))
  have I1 : Inv X pins σ H { s with heap := s.heap.update kS (Obj.mapSeq fun _ => (#[] : Array Value)), toks := s.toks } := I0.turned (it := kS) (fun b o hb e => (s1.2 b hb).trans e) fk.1 fk.2.1 fk.2.2.2.1 fk.2.2.2.2.1 fk.2.2.2.2.2
  refine wpAny_bind (wpAny_letGo ?_)
  have ha1 : (s.heap.update kS (Obj.mapSeq fun _ => (#[] : Array Value))).get? a = some (seqObj "list" #[] e1) := (s1.2 a hne.symm).trans pa.1
  refine wpAny_bind (seqEpoch_at ha1 rfl ?_)
  have hsz : ((arrOf st).map (·.2)).size = bs.length := by
    have := hp.length_eq
    rwa [Array.length_toList, ev, List.length_map] at this
  refine wpAny_bind (listUpdate_at ha1 rfl ?_ (Nat.zero_le _) (by
    show (if false = true then ((arrOf st).map (·.2)).reverse else (arrOf st).map (·.2)).size ≤ sizeLine + 1
    rw [if_neg Bool.false_ne_true, hsz]
    omega))
  rw [hf]
  simp only [bne_self_eq_false, Bool.false_eq_true, if_false]
  have s2 := Heap.SameBut.update (s.heap.update kS (Obj.mapSeq fun _ => (#[] : Array Value))) a (Obj.mapSeq fun _ => (arrOf st).map (·.2))
  have e2 := get?_update_seq ha1 fun _ => (arrOf st).map (·.2)
  rw [ev] at hp
  obtain ⟨bs', eb, pb⟩ := perm_back hp
  refine wpAny_pure (q bs' _ pb (track (s := { s with heap := s.heap.update kS (Obj.mapSeq fun _ => (#[] : Array Value)), toks := s.toks }) (tk := s.toks) I1 fa (fun b u hb e => (s2.2 b hb).trans e) ⟨_, e2⟩ ⟨by rw [List.length_map, pb.length_eq]; exact hz, ((arrOf st).map (·.2)).toList, _, ?_, by rw [Array.toArray_toList]; exact e2⟩))
  rw [eb]
  exact vals_refs bs'
/-- the sort itself, the keys known -/
theorem key_end {a kS : Addr} {e1 e0 : Nat} {keys : Array Value} {vs : List Value} {bs ps : List Addr} {A' : Around} {E' : Value → Shared → Prop} (I : Inv X (pins ++ [(a, seqObj "list" #[] e1), (kS, seqObj "list" keys e0)]) σ H s) (fa : FpOk X pins H a) (fk : FpOk X pins H kS) (hne : kS ≠ a)
    (hz : bs.length ≤ sizeLine) (ev : vs = bs.map Value.ref) (ek : keys.toList = ps.map Value.ref) (hl : ps.length = bs.length) (hk : ∀ p ∈ ps, KeyAt H p) {R : PySem.Fin → Shared → Prop}
    (q : ∀ (bs' : List Addr) (s' : Shared), bs'.Perm bs → Inv X pins σ (upd H a (.lst (bs'.map V.ref))) s' → R (.done (.ret .none)) s') :
    wpAny (model X.prog X.w) A' (ksk_end a false vs.toArray e1 (.ref kS) keys) R E' s := by
  have hvl : vs.length = bs.length := by rw [ev, List.length_map]
  have hks : keys.size = bs.length := by rw [← Array.length_toList, ek, List.length_map, hl]
  have hzs : (keys.zip vs.toArray).size = bs.length := by rw [Array.size_zip, hks, List.size_toArray, hvl, Nat.min_self]
  have snd : ((keys.zip vs.toArray).map (·.2)).toList = vs := by
    rw [Array.toList_map, ksk_zip, List.map_snd_zip (Nat.le_of_eq (hvl.trans hks.symm))]
  unfold ksk_end
  simp only [Bool.false_eq_true, if_false]
  try dsimp only
  by_cases h2 : vs.toArray.size < 2
  · rw [if_pos h2, if_pos h2]
    refine wpAny_bind (wpAny_pure ?_)
    rw [StateT.run_pure]
    refine wpAny_bind (wpAny_pure ?_)
    try dsimp only
    exact key_tail (st := SortSt.mk' general' (keys.zip vs.toArray) #[] 7 none) I fa fk hne (by rw [hks]; exact hz) hz ev (by show ((keys.zip vs.toArray).map (·.2)).toList.Perm vs; rw [snd]) rfl q
  · rw [if_neg h2, if_neg h2]
    rw [List.size_toArray, hvl] at h2
    have ht : ∀ v ∈ keys.toList, ITup s.heap v := fun v hv => by
      rw [ek] at hv
      obtain ⟨p, hp, rfl⟩ := List.mem_map.mp hv
      exact key_itup I (hk p hp)
    obtain ⟨fs, hfs⟩ := firsts ht
    have hfl : 0 < fs.length := by rw [G.TupsOf.length hfs, Array.length_toList, hks]; omega
    have ekk : keys = keys.toList.toArray := by rw [Array.toArray_toList]
    refine wpAny_bind ?_
    rw [ekk]
    refine tup_kind hfl hfs ?_
    rw [← ekk]
    refine wpAny_bind (wpAny_mono (G.wpS_sortRunsSt (κ := G.tupKindC s.heap sh0) (kd := tuples' true) (a₀ := keys.zip vs.toArray) (st := SortSt.mk' (tuples' true) (keys.zip vs.toArray) #[] 7 none)
      (Q := fun _ st' => (arrOf st').Perm (keys.zip vs.toArray) ∧ failedOf st' = none) (G.tupC_ltAt true (G.KeepsTups.refl s.heap)) (fun p hp => ?_) ⟨Array.Perm.refl _, rfl, rfl⟩ rfl (Stable.refl _) (by rw [hzs]; omega) fun st' a1 a2 _ _ => ⟨a1, a2⟩) ?_ fun _ _ e => e)
    · rw [ksk_zip] at hp
      exact (ht p.1 (List.of_mem_zip hp).1).key
    · rintro ⟨⟨⟩, st'⟩ s' ⟨rfl, hpm, hfd⟩
      try dsimp only
      refine key_tail I fa fk hne (by rw [hks]; exact hz) hz ev ?_ hfd q
      have := (Array.perm_iff_toList_perm.mp hpm).map (fun p : Keyed => p.2)
      rw [Array.toList_map]
      rw [Array.toList_map] at snd
      rw [snd] at this
      exact this

/-- the keys are asked one by one -/
theorem key_rest {k : Nat} {f : Addr} {fd : FuncData} {fps : List Str} {sp : Sp} (F : FnOk X.prog X.w X.K X.mg X.base CX0 k f fd fps sp) (hr : Room (k + 2) X.A) (hb : Binds X.K fd fps [])
    {a kS : Addr} {e1 : Nat} {vs : List Value} {bs : List Addr} {E' : Value → Shared → Prop} {H0 : Hp} (sH : Same H0 H) (I : Inv X (pins ++ [(a, seqObj "list" #[] e1), (kS, seqObj "list" #[] 0)]) σ H s) (fa : FpOk X pins H a) (fk : FpOk X pins H kS) (hne : kS ≠ a)
    (hz : bs.length ≤ sizeLine) (ev : vs = bs.map Value.ref)
    (turn : ∀ b ∈ bs, ∀ (H1 : Hp) (Q' : VK), Same H0 H1 → (∀ p H2, Same H1 H2 → KeyAt H2 p → Q' (.ref p) H2) → sp [.ref b] H1 Q' E0) {R : PySem.Fin → Shared → Prop}
    (q : ∀ (H' : Hp) (bs' : List Addr) (s' : Shared), Same H0 H' → H' a = none → bs'.Perm bs → Inv X pins σ (upd H' a (.lst (bs'.map V.ref))) s' → R (.done (.ret .none)) s') :
    wpAny (model X.prog X.w) X.A.in1.in1 (ksk_rest a (.ref f) false vs.toArray e1 (.ref kS)) R E' s := by
  have fpA : ∀ {H' : Hp}, H' a = none → FpOk X pins H' a := fun h => ⟨h, fa.2⟩
  have fpK : ∀ {H' : Hp}, H' kS = none → FpOk X pins H' kS := fun h => ⟨h, fk.2⟩
  have hvl : vs.length = bs.length := by rw [ev, List.length_map]
  unfold ksk_rest
  refine wpAny_bind (wpAny_rule ?_)
  first
    | rw [List.forIn_toArray]
    | (rw [← Array.forIn_toList]; simp only [List.toList_toArray])
    | rw [← Array.forIn_toList]
  refine wpAny_bind (ksk_fold (fun i s' => ∃ (H' : Hp) (kA : Array Value) (e : Nat) (ps : List Addr), Inv X (pins ++ [(a, seqObj "list" #[] e1), (kS, seqObj "list" kA e)]) σ H' s' ∧ Same H0 H' ∧ kA.toList = ps.map Value.ref ∧ ps.length = i ∧ ∀ p ∈ ps, KeyAt H' p) vs 0 s
    ⟨H, #[], 0, [], I, sH, rfl, rfl, fun _ z => by cases z⟩ ?step ?done)
  case step =>
    rintro j x s' hx ⟨H', kA, e, ps, I', sH', ek, hl, hk⟩
    simp only [Nat.zero_add] at hl ⊢
    have hj : j < bs.length := by rw [← hvl]; exact (List.getElem?_eq_some_iff.mp hx).1
    have hkz : kA.size = j := by rw [← Array.length_toList, ek, List.length_map, hl]
    rw [ev, List.getElem?_map, List.getElem?_eq_getElem hj] at hx
    obtain rfl : Value.ref bs[j] = x := Option.some.inj hx
    have run := call_in (Q := fun v H2 => ∃ p, v = .ref p ∧ Same H' H2 ∧ KeyAt H2 p) (E' := fun _ _ => False) (us := [Value.ref bs[j]]) (vs := [V.ref bs[j]]) F hr hb I' (.cons rfl .nil) (turn bs[j] (List.getElem_mem hj) H' _ sH' fun p H2 s2 k2 => ⟨p, rfl, s2, k2⟩)
    refine wpAny_bind (wpAny_attempt (wpAny_mono run (fun v s'' he => ?_) fun _ _ hF => hF.elim))
    obtain ⟨v', H2, I2, r2, p, rfl, s2, k2⟩ := he
    obtain rfl : v = Value.ref p := r2
    try dsimp only
    have pa := I2.pin (a, seqObj "list" #[] e1) (by simp)
    have pk := I2.pin (kS, seqObj "list" kA e) (by simp)
    have sb := Heap.SameBut.update s''.heap kS (Obj.mapSeq (·.push (Value.ref p)))
    obtain ⟨c2, e2⟩ : ∃ c2, (s''.heap.update kS (Obj.mapSeq (·.push (Value.ref p)))).get? kS = some (seqObj "list" (kA.push (.ref p)) c2) := ⟨_, get?_update_seq pk.1 (·.push (Value.ref p))⟩
    refine wpAny_bind (listUpdate_at pk.1 rfl ?_ (by rw [hkz]; omega) (by rw [Array.size_push, hkz]; omega))
    have fk2 := fpK pk.2.1
    have I3 : Inv X pins σ H2 { s'' with heap := s''.heap.update kS (Obj.mapSeq (·.push (Value.ref p))), toks := s''.toks } :=
      I2.unpinned.turned (it := kS) (fun b o hb' e' => (sb.2 b hb').trans e') fk2.1 fk2.2.1 fk2.2.2.2.1 fk2.2.2.2.2.1 fk2.2.2.2.2.2
    refine wpAny_pure ⟨rfl, H2, kA.push (.ref p), c2, ps ++ [p], I3.pins_of fun r hr' => ?_, sH'.trans s2, by rw [Array.toList_push, ek, List.map_append] <;> rfl, by rw [List.length_append, hl] <;> rfl, fun r hr' => ?_⟩
    · rcases List.mem_append.mp hr' with z | z
      · exact I3.pin r (List.mem_append_right _ z)
      · rcases List.mem_cons.mp z with rfl | z
        · exact ⟨(sb.2 a hne.symm).trans pa.1, pa.2⟩
        · rw [List.mem_singleton.mp z]
          exact ⟨e2, pk.2.1, pk.2.2.1, pk.2.2.2.1, fun v z' => by cases z'⟩
    · rcases List.mem_append.mp hr' with z | z
      · obtain ⟨ns, h1, h2⟩ := hk r z
        exact ⟨ns, h1, s2 _ _ h2⟩
      · rw [List.mem_singleton.mp z]; exact k2
  case done =>
    rintro s' ⟨H', kA, e, ps, I', sH', ek, hl, hk⟩
    rw [Nat.zero_add, hvl] at hl
    have pa := I'.pin (a, seqObj "list" #[] e1) (by simp)
    have pk := I'.pin (kS, seqObj "list" kA e) (by simp)
    try dsimp only
    refine wpAny_bind (listItems_at pk.1 rfl ?_)
    exact key_end I' (fpA pa.2.1) (fpK pk.2.1) hne hz ev ek hl hk fun bs' s'' pb J => q H' bs' s'' sH' pa.2.1 pb J
/-- sorted(xs, key=f) -/
theorem cr_sortK {k : Nat} {f : Addr} {fd : FuncData} {fps : List Str} {sp : Sp} (F : FnOk X.prog X.w X.K X.mg X.base CX0 k f fd fps sp) (hr : Room (k + 2) X.A) (hb : Binds X.K fd fps []) : CallRK X (.builtin "sorted") [Str.ofString "key"] (rSortK X.K sp f) := by
  intro pins s σ H xs zs us ws Q I r rz h
  obtain ⟨l, bs, rfl, rfl, hs, turn, q⟩ := h
  rw [Vals.ref1 r, Vals.ref1 rz]
  obtain ⟨its, rv, pl, hz⟩ := I.list hs
  have ev := refs_of rv
  rw [List.length_map] at hz
  have hvz : its.length ≤ sizeLine := by rw [ev, List.length_map]; exact hz
  refine call_function_entry_kw kind_sorted plain_sorted entry_sorted (ksk_s1 _ _) ?_
  unfold Builtin.«sorted»
  refine wpAny_bind (m := checkCount "sorted" 1 1 _) (wpAny_pure ?_)
  refine wpAny_bind (collect_list pl.isList ?_ hvz)
  refine wpAny_bind (wpAny_newList ?_ hvz)
  generalize hh1 : (s.heap.push (seqObj "list" #[] 0)).update s.heap.objs.size (Obj.mapSeq (· ++ its.toArray)) = h1
  have k1 : ∀ b o, s.heap.get? b = some o → h1.get? b = some o := fun b o e => by
    rw [← hh1, Heap.get?_update_ne _ _ _ _ (Nat.ne_of_lt (Heap.lt_size e))]
    exact Heap.get?_push_of_some _ e
  have I1 : Inv X pins σ H { s with heap := h1 } := I.kept (t' := s.toks) k1
  have nL : H h1.objs.size = none := I1.hok.fresh (Nat.le_refl _)
  have fL : FpOk X pins H h1.objs.size := I1.fpOk (Nat.le_refl _) nL
  have hoL : (h1.push (seqObj "list" its.toArray 0)).get? h1.objs.size = some (seqObj "list" its.toArray 0) := Heap.get?_push_size _ rfl
  have I2 : Inv X pins σ H { s with heap := h1.push (seqObj "list" its.toArray 0) } := I1.kept (t' := s.toks) fun b o e => Heap.get?_push_of_some _ e
  refine wpAny_bind (wpAny_holding (wpAny_call_entry_kw slot_list_sort ⟨_, hoL, rfl⟩ entry_list_sort ?_ (ksk_l1 _ _)))
  show wpAny (model X.prog X.w) X.A.in1.in1 (Builtin.«list.sort» ⟨[.ref h1.objs.size], [(Str.ofString "key", .ref f)]⟩) _ _ _
  rw [ksk_t1]
  unfold ksk_tree
  refine wpAny_bind (listItems_at hoL rfl ?_)
  refine wpAny_bind (listUpdate_at hoL rfl ?_ (by rw [List.size_toArray]; exact hvz) (Nat.zero_le _))
  have sb := Heap.SameBut.update (h1.push (seqObj "list" its.toArray 0)) h1.objs.size (Obj.mapSeq fun _ => (#[] : Array Value))
  obtain ⟨e1, he1⟩ : ∃ e1, ((h1.push (seqObj "list" its.toArray 0)).update h1.objs.size (Obj.mapSeq fun _ => #[])).get? h1.objs.size = some (seqObj "list" #[] e1) := ⟨_, get?_update_seq hoL fun _ => #[]⟩
  refine wpAny_bind (seqEpoch_at he1 rfl ?_)
  have I3 : Inv X pins σ H { s with heap := (h1.push (seqObj "list" its.toArray 0)).update h1.objs.size (Obj.mapSeq fun _ => #[]) } :=
    Inv.turned (s := { s with heap := h1.push (seqObj "list" its.toArray 0) }) (t' := s.toks) (it := h1.objs.size) I2 (fun b o hb' e' => (sb.2 b hb').trans e') fL.1 fL.2.1 fL.2.2.2.1 fL.2.2.2.2.1 fL.2.2.2.2.2
  generalize (h1.push (seqObj "list" its.toArray 0)).update h1.objs.size (Obj.mapSeq fun _ => #[]) = h2 at he1 I3 ⊢
  refine wpAny_bind (wpAny_newTuple ?_ (by show its.length ≤ _; exact hvz))
  refine wpAny_bind (wpAny_newList ?_ (Nat.zero_le _))
  refine wpAny_holding ?_
  have I4 : Inv X pins σ H { s with heap := h2.push (seqObj "tuple" its.toArray 0) } := I3.kept (t' := s.toks) fun b o e => Heap.get?_push_of_some _ e
  have he4 : (h2.push (seqObj "tuple" its.toArray 0)).get? h1.objs.size = some (seqObj "list" #[] e1) := Heap.get?_push_of_some _ he1
  show wpAny _ _ (ksk_rest h1.objs.size (.ref f) false its.toArray e1 (.ref (h2.push (seqObj "tuple" its.toArray 0)).objs.size)) _ _ { s with heap := (h2.push (seqObj "tuple" its.toArray 0)).push (seqObj "list" #[] 0) }
  generalize h2.push (seqObj "tuple" its.toArray 0) = h4 at he4 I4 ⊢
  have nK : H h4.objs.size = none := I4.hok.fresh (Nat.le_refl _)
  have fK : FpOk X pins H h4.objs.size := I4.fpOk (Nat.le_refl _) nK
  have hne : h4.objs.size ≠ h1.objs.size := Nat.ne_of_gt (Heap.lt_size he4)
  have I5 : Inv X pins σ H { s with heap := h4.push (seqObj "list" #[] 0) } := I4.kept (t' := s.toks) fun b o e => Heap.get?_push_of_some _ e
  refine key_rest (H0 := H) F hr hb (Same.refl H) (I5.pins_of fun p hp => ?_) fL fK hne hz ev turn fun H' bs' s' sH na pb J => ⟨_, rfl, ?_⟩
  · rcases List.mem_append.mp hp with z | z
    · exact I5.pin p (List.mem_append_right _ z)
    · rcases List.mem_cons.mp z with rfl | z
      · exact ⟨Heap.get?_push_of_some _ he4, fL.1, fL.2.1, fL.2.2.1, fun v z' => by cases z'⟩
      · rw [List.mem_singleton.mp z]
        exact ⟨Heap.get?_push_size _ rfl, fK.1, fK.2.1, fK.2.2.1, fun v z' => by cases z'⟩
  · exact wpAny_pure ⟨_, rfl, .ref h1.objs.size, _, J, rfl, q _ _ bs' (fun b o e => by rw [upd_ne (ne_of_none (sH b o e) na)]; exact sH b o e) nL pb upd_same⟩
end
end K8S

/-! dict(xs) of pairs whose firsts are tuples of ints; max of a tuple; d.update(e); len(set(xs)) of equal ints. -/
namespace K8S
open PySem PySem.Spec PyProof.Rows L2

/-! ### dict([(tuple, True), ..]) -/
/-- a row of the argument: the pair's tuple, the key's tuple, its ints -/
abbrev Row := Addr × Addr × List Int
def rowH (p : Row) : List Key × Addr × Value := (p.2.2.map Sum.inl, p.2.1, .bool true)
theorem stored_true {κ : Type} [DecidableEq κ] : ∀ {ps xs : List (κ × Addr × Value)}, (∀ x ∈ xs, x.2.2 = Value.bool true) → (∀ x ∈ ps, x.2.2 = Value.bool true) → ∀ x ∈ storedAllH xs ps, x.2.2 = Value.bool true
  | [], xs, h, _ => h
  | p :: ps, xs, h, hp => by
    refine stored_true (ps := ps) (xs := storedH xs p.1 p.2.1 p.2.2) (fun x hx => ?_) fun x hx => hp x (List.mem_cons_of_mem _ hx)
    have e := hp p List.mem_cons_self
    unfold storedH at hx
    split at hx
    · obtain ⟨y, hy, rfl⟩ := List.mem_map.mp hx
      unfold putAt
      split
      · exact e
      · exact h y hy
    · rcases List.mem_append.mp hx with z | z
      · exact h x z
      · rw [List.mem_singleton.mp z]; exact e
theorem at_some {κ : Type} [DecidableEq κ] {xs : List (κ × Addr × Value)} {k : κ} : (atKey xs k).isSome = true ↔ k ∈ xs.map (·.1) := by
  unfold atKey
  rw [Option.isSome_map, List.find?_isSome, List.mem_map]
  constructor
  · rintro ⟨x, hx, e⟩
    exact ⟨x, hx, of_decide_eq_true e⟩
  · rintro ⟨x, hx, e⟩
    exact ⟨x, hx, decide_eq_true e⟩
theorem stored_keys {κ : Type} [DecidableEq κ] {k : κ} : ∀ {ps xs : List (κ × Addr × Value)}, k ∈ (storedAllH xs ps).map (·.1) ↔ k ∈ xs.map (·.1) ∨ k ∈ ps.map (·.1)
  | [], xs => by simp [storedAllH]
  | p :: ps, xs => by
    have ih := stored_keys (k := k) (ps := ps) (xs := storedH xs p.1 p.2.1 p.2.2)
    show k ∈ (storedAllH (storedH xs p.1 p.2.1 p.2.2) ps).map (·.1) ↔ _
    rw [ih, List.map_cons, List.mem_cons]
    have e : k ∈ (storedH xs p.1 p.2.1 p.2.2).map (·.1) ↔ k ∈ xs.map (·.1) ∨ k = p.1 := by
      unfold storedH
      split
      · rename_i hs
        have hm : (xs.map (putAt p.1 p.2.2)).map (·.1) = xs.map (·.1) := by
          rw [List.map_map]
          refine List.map_congr_left fun x _ => ?_
          show (putAt p.1 p.2.2 x).1 = x.1
          unfold putAt
          split <;> rfl
        rw [hm]
        constructor
        · exact .inl
        · rintro (z | z)
          · exact z
          · rw [z]; exact at_some.mp hs
      · rw [List.map_append, List.mem_append]
        constructor
        · rintro (z | z)
          · exact .inl z
          · exact .inr (List.mem_singleton.mp z)
        · rintro (z | z)
          · exact .inl z
          · exact .inr (by rw [z]; exact List.mem_singleton.mpr rfl)
    rw [e]
    constructor
    · rintro ((z | z) | z)
      · exact .inl z
      · exact .inr (.inl z)
      · exact .inr (.inr z)
    · rintro (z | z | z)
      · exact .inl (.inl z)
      · exact .inl (.inr z)
      · exact .inr z
theorem kt_make {H : Hp} : ∀ {xs : List (List Key × Addr × Value)}, (∀ x ∈ xs, H x.2.1 = some (.tup (x.1.map kV))) → (∀ x ∈ xs, x.2.2 = Value.bool true) → KT H (xs.map fun x => (x.1, V.bl true)) xs
  | [], _, _ => .nil
  | x :: r, h1, h2 => .cons ⟨rfl, h1 x List.mem_cons_self, h2 x List.mem_cons_self⟩ (kt_make (fun y hy => h1 y (List.mem_cons_of_mem _ hy)) fun y hy => h2 y (List.mem_cons_of_mem _ hy))
def rDictT (K : PySem.W.Frag) : List V → Hp → VK → Prop := fun vs H Q => ∃ (l : Addr) (ps : List Row), vs = [V.ref l] ∧ SqL K H l (ps.map fun p => V.ref p.1) ∧ ps.length ≤ 10000 ∧
  (∀ p ∈ ps, H p.1 = some (.tup [.ref p.2.1, .bl true]) ∧ H p.2.1 = some (.tup (p.2.2.map V.int))) ∧
  ∀ (d : Addr) (kvs : List (List Key × V)), H d = none → kvs.length ≤ ps.length → (∀ k, k ∈ kvs.map (·.1) ↔ ∃ p ∈ ps, k = p.2.2.map Sum.inl) → Q (.ref d) (upd H d (.dT kvs))
section
variable {X : Cx}
theorem cr_dictT (hc : X.calm = true) (hu : X.A.units + 64 < cLine) : CallR X (.type "dict") (rDictT X.K) := by
  intro pins s σ H vs us Q I r h
  obtain ⟨l, ps, rfl, hs, hz, hp, q⟩ := h
  rw [Vals.ref1 r]
  obtain ⟨its, rv, pl, _⟩ := I.list hs
  have ei : its = ps.map fun p => Value.ref p.1 := by
    have := refs_of (bs := ps.map (·.1)) (us := its) (by rw [List.map_map]; exact rv)
    rw [this, List.map_map] <;> rfl
  have hkey : ∀ p ∈ ps, H p.2.1 = some (.tup ((p.2.2.map Sum.inl : List Key).map kV)) := fun p m => by
    rw [List.map_map]
    exact (hp p m).2
  have hn : H s.heap.objs.size = none := I.hok.fresh (Nat.le_refl _)
  have ok : PlainSeq "list" s.heap l its.toArray ∧ PairItems s.heap its.toArray (fun j => ((ps[j]?).map (·.1)).getD 0) (ps.map fun p => (Value.ref p.2.1, Value.bool true)) := by
    refine ⟨pl, by rw [List.size_toArray, ei, List.length_map, List.length_map], fun j k v e => ?_⟩
    rw [List.getElem?_map] at e
    obtain ⟨p, e1, e2⟩ := Option.map_eq_some_iff.mp e
    cases e2
    have eT : (fun j => ((ps[j]?).map (·.1)).getD 0) j = p.1 := by
      show ((ps[j]?).map (·.1)).getD 0 = p.1
      rw [e1] <;> rfl
    rw [eT]
    refine ⟨?_, ?_⟩
    · rw [List.getElem?_toArray, ei, List.getElem?_map, e1] <;> rfl
    · have hm := List.mem_of_getElem? e1
      obtain ⟨_, its2, r2, o, ho, hcl, n, hd⟩ := I.hok _ _ (hp p hm).1
      obtain ⟨u1, u2, rfl, r21, r22⟩ := vals2 r2
      cases r21
      cases r22
      exact .inl ⟨o, ho, hcl, n, hd⟩
  have hkeep : ∀ (h' : Heap), (∀ b o, b ≠ s.heap.objs.size → b ∉ ([] : List Addr) → s.heap.get? b = some o → h'.get? b = some o) → ∀ x ∈ ps.map rowH, (tupleKind (mixKind X.prog X.w)).is h' x.1 x.2.1 := fun h' hk x hx => by
    obtain ⟨p, hm, rfl⟩ := List.mem_map.mp hx
    obtain ⟨o, items, n, ho, rest⟩ := (show IsTupleKey (mixKind X.prog X.w) s.heap (p.2.2.map Sum.inl) p.2.1 from key_of I.hok (hkey p hm))
    exact ⟨o, items, n, hk _ _ (Nat.ne_of_lt (Heap.lt_size ho)) (fun z => by cases z) ho, rest⟩
  refine call_dict_pairsH (knd := tupleKind (mixKind X.prog X.w)) (ps := ps.map rowH) (PairArg.list l its.toArray (fun j => ((ps[j]?).map (·.1)).getD 0) (ps.map fun p => (Value.ref p.2.1, Value.bool true))) (I.ok.hd hc) (by show X.A.units + 1 + 1 < cLine; omega) ok
    ⟨by rw [List.length_map, List.length_map], fun i key v e => ?_⟩ hkeep (by rw [List.length_map, sizeLine_eq]; omega) fun h' tk hd kp => ?_
  · have e' : (ps.map fun p => (Value.ref p.2.1, Value.bool true))[i]? = some (key, v) := e
    rw [List.getElem?_map] at e'
    obtain ⟨p, e1, e2⟩ := Option.map_eq_some_iff.mp e'
    cases e2
    exact ⟨p.2.2.map Sum.inl, p.2.1, by rw [List.getElem?_map, e1] <;> rfl, rfl⟩
  · have kp' : ∀ b o, s.heap.get? b = some o → h'.get? b = some o := fun b o e => kp b o (fun z => by cases z) e
    have hk : ∀ x ∈ storedAllH [] (ps.map rowH), H x.2.1 = some (.tup (x.1.map kV)) := storedAllH_keys (P := fun (k : List Key) (a : Addr) => H a = some (.tup (k.map kV))) (fun _ z => by cases z) fun x hx => by
      obtain ⟨p, hm, rfl⟩ := List.mem_map.mp hx
      exact hkey p hm
    have ht : ∀ x ∈ storedAllH [] (ps.map rowH), x.2.2 = Value.bool true := stored_true (fun _ z => by cases z) fun x hx => by
      obtain ⟨p, hm, rfl⟩ := List.mem_map.mp hx
      rfl
    have hlen : (storedAllH [] (ps.map rowH)).length ≤ ps.length := by
      have := storedAllH_length (ps.map rowH) []
      rw [List.length_map] at this
      simpa using this
    obtain ⟨o, es, ep, ho, hx, hdt, he, _, hnd⟩ := hd
    have up : ∀ b xs, H b = some (.tup xs) → upd H s.heap.objs.size (.dT ((storedAllH [] (ps.map rowH)).map fun x => (x.1, V.bl true))) b = some (.tup xs) := fun b xs e => by
      rw [upd_ne (ne_of_none e hn)]; exact e
    have new : ObjOk X.prog X.w (upd H s.heap.objs.size (.dT ((storedAllH [] (ps.map rowH)).map fun x => (x.1, V.bl true)))) h' s.heap.objs.size (.dT ((storedAllH [] (ps.map rowH)).map fun x => (x.1, V.bl true))) :=
      ⟨by rw [List.length_map, sizeLine_eq]; omega, beq_eq_false_iff_ne.mpr (Nat.ne_of_gt I.big), storedAllH [] (ps.map rowH), (kt_make hk ht).keeps up, o, es, ep, ho, hx, hdt, he, hnd⟩
    refine ⟨.ref s.heap.objs.size, _, I.laid (t' := tk) kp' (Nat.le_refl _) new, rfl, q _ _ hn (by rw [List.length_map]; exact hlen) fun k => ?_⟩
    have e3 : ((storedAllH [] (ps.map rowH)).map fun x => (x.1, V.bl true)).map (·.1) = (storedAllH [] (ps.map rowH)).map (·.1) := by rw [List.map_map] <;> rfl
    rw [e3, stored_keys, List.map_map]
    constructor
    · rintro (z | z)
      · cases z
      · obtain ⟨p, hm, rfl⟩ := List.mem_map.mp z
        exact ⟨p, hm, rfl⟩
    · rintro ⟨p, hm, rfl⟩
      exact .inr (List.mem_map.mpr ⟨p, hm, rfl⟩)

/-! ### max(t) of a tuple of ints -/
def rMaxT (K : PySem.W.Frag) : List V → Hp → VK → Prop := fun vs H Q => ∃ (a : Addr) (ns : List Int), vs = [V.ref a] ∧ SqT K H a (ns.map V.int) ∧ 0 < ns.length ∧ ∀ m, Q (.int m) H
theorem cr_maxT (hc : X.calm = true) : CallR X (.builtin "max") (rMaxT X.K) := by
  intro pins s σ H vs us Q I r h
  obtain ⟨a, ns, rfl, hs, hne, q⟩ := h
  obtain ⟨its, rv, ht, _⟩ := I.tuple hs
  rw [Vals.ref1 r]
  obtain ⟨xs, e⟩ := (intsAre_of rv).allInts.items
  rw [e] at ht
  have hsz : 0 < xs.size := by
    have h1 : its.length = ns.length := by rw [← rv.length, List.length_map]
    have h2 : its.toArray.size = (intItems xs).size := by rw [e]
    rw [List.size_toArray, h1] at h2
    simpa [intItems] using (by omega : 0 < (intItems xs).size)
  have hlt : a < s.heap.objs.size := ht.lt
  refine call_max_walk (wpAny_pyIter_tuple ht ?_)
  refine ⟨_, _, _, _, _, _, _, rfl, Walks.tuple (A := X.A.in1) (I.ok.hd hc) _ a (Nat.ne_of_lt hlt) (intItems xs), ⟨⟨_, Heap.get?_push_size _ rfl, rfl, rfl⟩, ht.push _⟩, fun b hb => ?_, by simpa [intItems] using hsz, CmpOf.ints_gt (numAt xs) (fun _ _ => intItems_at), fun v h' tk hP hk => ?_⟩
  · rw [size_push']
    rcases List.mem_cons.mp hb with rfl | hb
    · exact Nat.lt_succ_self _
    · rw [List.mem_singleton.mp hb]; exact Nat.lt_succ_of_lt hlt
  · obtain ⟨t, rfl⟩ := intItems_at hP
    exact ⟨.int _, H, I.kept fun b o e => hk b o (fun z => Nat.ne_of_lt (Heap.lt_size e) (List.mem_singleton.mp z)) (Heap.get?_push_of_some _ e), ⟨_, rfl⟩, q _⟩

/-! ### d.update(e), keys that are ints -/
def rUpdD : V → List V → Hp → VK → Prop := fun x xs H Q => ∃ (a b : Addr) (kvs more : List (Key × V)), x = V.ref a ∧ xs = [V.ref b] ∧ H a = some (.dK kvs) ∧ H b = some (.dK more) ∧ a ≠ b ∧ kvs.length + more.length ≤ sizeLine ∧ Q .non (upd H a (.dK (mergeK kvs more)))
theorem mt_updD : MtR X "dict.update" rUpdD := by
  intro pins s σ H x xs v us Q I rx rv h
  obtain ⟨a, b, kvs, more, rfl, rfl, ha, hb, hne, hz, q⟩ := h
  cases rx
  rw [Vals.ref1 rv]
  obtain ⟨_, hsa, vs, kv1, d1⟩ := dk_of I.hok ha
  obtain ⟨_, hsb, ws, kv2, d2⟩ := dk_of I.hok hb
  have l1 := kv1.length
  have l2 := kv2.length
  refine PySem.call_meetsIn PySem.F.slot_dict_update d1.typeIs PySem.F.entry_dict_update (PySem.F.args_dict_update_2 _ _) (PySem.meets_dict_update (mixKind X.prog X.w) a b hne hsb) ⟨vs, ws, d1, d2, by rw [← l1, ← l2]; exact hz, fun h' m1 m2 sb => ?_⟩
  have hle : (mergeK kvs more).length ≤ sizeLine := Nat.le_trans (length_mergeK more kvs) hz
  obtain ⟨o, es, ep, ho, r⟩ := id m1
  refine ⟨.non, upd H a (.dK (mergeK kvs more)), d_write (t' := s.toks) I (by rw [ha]; trivial) sb ⟨o, ho⟩ ⟨hle, hsa, _, kv2.merge kv1, m1⟩, rfl, q⟩
end
end K8S

/-! len(set(xs)) of equal ints. -/
namespace K8S
open PySem PySem.Spec PyProof.Rows L2
theorem met_one {ns : List Int} {c : Int} (h : ∀ n ∈ ns, n = c) : ∀ i, i < ns.length → firstMet (fun i => ns.getD i 0) (i + 1) = [c]
  | 0, hi => by
    have e : ns.getD 0 0 = c := by
      rw [List.getD_eq_getElem?_getD, List.getElem?_eq_getElem hi]
      exact h _ (List.getElem_mem hi)
    rw [firstMet_succ, firstMet_zero]
    show step_dedup [] (ns.getD 0 0) = [c]
    rw [e] <;> rfl
  | i + 1, hi => by
    have e : ns.getD (i + 1) 0 = c := by
      rw [List.getD_eq_getElem?_getD, List.getElem?_eq_getElem hi]
      exact h _ (List.getElem_mem hi)
    rw [firstMet_succ, met_one h i (by omega)]
    show step_dedup [c] (ns.getD (i + 1) 0) = [c]
    rw [e]
    unfold step_dedup
    rw [if_pos (by simp)]
section
variable {X : Cx}
def tLenC (K : PySem.W.Frag) (ta : TE) : TE := fun σ H Q => ta σ H fun x H1 => ∃ (l : Addr) (ns : List Int) (c : Int), x = V.ref l ∧ SqL K H1 l (ns.map V.int) ∧ ns ≠ [] ∧ ns.length ≤ 1000 ∧ (∀ n ∈ ns, n = c) ∧ Q (.int 1) H1
theorem pe_lenC {a : Expr} {ta : TE} {p p2 q pos : Pos} (hc : X.calm = true) (hg : Gl X "len") (hm : X.mg "len" = none) (hg2 : Gl X "set") (hm2 : X.mg "set" = none) (ha : PE X a ta)
    (na : starEach [a] X.env = (false, eval a X.env) :: starEach [] X.env := by rfl) : PE X (.Call (.Name "len" p) [.Call (.Name "set" p2) [a] [] q] [] pos) (tLenC X.K ta) := by
  refine ⟨fun pins s σ H Q I h => ?_⟩
  refine Call_ (ld_blt I hg hm PySem.boot_len ?_)
  refine PyProof.Rows.callWith_builtin1 (PyProof.Rows.args_cons ?_ rfl) rfl rfl
  refine Call_ (ld_blt I hg2 hm2 PyProof.Rows.boot_set ?_)
  refine PyProof.Rows.callWith_type1 (PyProof.Rows.args_cons (thn (ha.run pins s σ H _ I h) fun v s1 ⟨x, H1, I1, r1, q1⟩ => PyProof.Rows.args_nil ?_) na) na rfl
  obtain ⟨l, ns, c, rfl, hq, hne, h1, hall, q1⟩ := q1
  cases r1
  obtain ⟨its, r, pl, hz⟩ := I1.list hq
  have hl : its.toArray.size = ns.length := by rw [List.size_toArray, ← r.length, List.length_map]
  refine call_set_list (I1.ok.hd hc) pl.isList (ns := ns) (intsAre_of r) (by rw [hl]; unfold scanBound; omega) fun h' tk hS hk => ?_
  have hpos : 0 < ns.length := List.length_pos_iff.mpr hne
  obtain ⟨k, ek⟩ : ∃ k, ns.length = k + 1 := ⟨ns.length - 1, by omega⟩
  rw [hl, ek, met_one hall k (by omega)] at hS
  refine PyProof.Rows.args_nil ?_
  obtain ⟨o, es, ep, t, ho, hex, hd, _, _, _, hf, hn⟩ := hS
  have I2 : Inv X pins σ H1 { s1 with heap := h', toks := tk } := I1.kept fun b o e => hk b o (Heap.lt_size e) e
  exact call_len_set ho hex hd hf (by rw [hn]; show ((1 : Nat) : Int) < 2 ^ 63; decide) ⟨.int 1, H1, I2.tok _, ⟨_, by rw [hn] <;> rfl⟩, q1⟩
end
end K8S

/-! The text by places; what stands in the heap; comprehensions in short. -/
namespace K8
open PySem PySem.Spec PyProof.Rows L2 K8S

/-! ### the text -/
def topS (i : Nat) : Stmt := PySem.Challenge.pw_partedweb_k08_whole_cuts_beside_owners.main.body.getD i (.Pass ⟨0, 0, 0, 0⟩)
abbrev sPairsCut : Stmt := topS 1
theorem scPairsCut : FnScope ["cut", "pair"] ["cut"] (defScope sPairsCut) := ⟨rfl, rfl, rfl, by decide +kernel, rfl, by decide +kernel, by decide +kernel⟩
abbrev sWeightOf : Stmt := topS 2
theorem scWeightOf : FnScope ["web", "cut", "there", "a", "b", "weight"] ["web", "cut"] (defScope sWeightOf) := ⟨rfl, rfl, rfl, by decide +kernel, rfl, by decide +kernel, by decide +kernel⟩
abbrev sWithout : Stmt := topS 3
theorem scWithout : FnScope ["web", "cut", "there", "tie"] ["web", "cut"] (defScope sWithout) := ⟨rfl, rfl, rfl, by decide +kernel, rfl, by decide +kernel, by decide +kernel⟩
abbrev sBeside : Stmt := topS 4
theorem scBeside : FnScope ["web", "found", "a", "b", "weight", "place"] ["web"] (defScope sBeside) := ⟨rfl, rfl, rfl, by decide +kernel, rfl, by decide +kernel, by decide +kernel⟩
abbrev sHangsOn : Stmt := topS 5
theorem scHangsOn : FnScope ["near", "place", "met", "waiting", "other"] ["near", "place"] (defScope sHangsOn) := ⟨rfl, rfl, rfl, by decide +kernel, rfl, by decide +kernel, by decide +kernel⟩
abbrev sPieces : Stmt := topS 6
theorem scPieces : FnScope ["web", "near", "met", "found", "place", "other"] ["web"] (defScope sPieces) := ⟨rfl, rfl, rfl, by decide +kernel, rfl, by decide +kernel, by decide +kernel⟩
abbrev sMerged : Stmt := topS 7
theorem scMerged : FnScope ["web", "names", "weights", "a", "b", "weight", "pair"] ["web", "names"] (defScope sMerged) := ⟨rfl, rfl, rfl, by decide +kernel, rfl, by decide +kernel, by decide +kernel⟩
abbrev sPostsIn : Stmt := topS 9
theorem scPostsIn : FnScope ["posts", "piece", "post"] ["posts", "piece"] (defScope sPostsIn) := ⟨rfl, rfl, rfl, by decide +kernel, rfl, by decide +kernel, by decide +kernel⟩
abbrev sIsParting : Stmt := topS 10
theorem scIsParting : FnScope ["web", "posts", "cut", "piece"] ["web", "posts", "cut"] (defScope sIsParting) := ⟨rfl, rfl, rfl, by decide +kernel, rfl, by decide +kernel, by decide +kernel⟩
abbrev sCutBy : Stmt := topS 11
theorem scCutBy : FnScope ["web", "owners", "a", "b", "weight"] ["web", "owners"] (defScope sCutBy) := ⟨rfl, rfl, rfl, by decide +kernel, rfl, by decide +kernel, by decide +kernel⟩
abbrev sOwnersOf : Stmt := topS 12
theorem scOwnersOf : FnScope ["web", "posts", "cut", "owners", "near", "post", "place"] ["web", "posts", "cut"] (defScope sOwnersOf) := ⟨rfl, rfl, rfl, by decide +kernel, rfl, by decide +kernel, by decide +kernel⟩
abbrev sByWeight : Stmt := topS 13
theorem scByWeight : FnScope ["tie"] ["tie"] (defScope sByWeight) := ⟨rfl, rfl, rfl, by decide +kernel, rfl, by decide +kernel, by decide +kernel⟩
abbrev sPruned : Stmt := topS 14
theorem scPruned : FnScope ["web", "posts", "cut", "there", "left", "tie", "fewer", "pair"] ["web", "posts", "cut"] (defScope sPruned) := ⟨rfl, rfl, rfl, by decide +kernel, rfl, by decide +kernel, by decide +kernel⟩
abbrev sLCellAt : Stmt := topS 16
theorem scLCellAt : FnScope ["_law_script", "_law_k"] ["_law_script", "_law_k"] (defScope sLCellAt) := ⟨rfl, rfl, rfl, by decide +kernel, rfl, by decide +kernel, by decide +kernel⟩
abbrev sLBox : Stmt := topS 17
theorem scLBox : FnScope ["_law_script", "_law_k", "_law_cell"] ["_law_script", "_law_k"] (defScope sLBox) := ⟨rfl, rfl, rfl, by decide +kernel, rfl, by decide +kernel, by decide +kernel⟩
abbrev sLTake : Stmt := topS 18
theorem scLTake : FnScope ["_law_box_here", "_law_many_here", "_law_found", "_law_once", "_law_twice"] ["_law_box_here", "_law_many_here"] (defScope sLTake) := ⟨rfl, rfl, rfl, by decide +kernel, rfl, by decide +kernel, by decide +kernel⟩
abbrev sLMany : Stmt := topS 19
theorem scLMany : FnScope ["_law_box_here", "_law_least", "_law_few", "_law_most"] ["_law_box_here", "_law_least", "_law_few", "_law_most"] (defScope sLMany) := ⟨rfl, rfl, rfl, by decide +kernel, rfl, by decide +kernel, by decide +kernel⟩
abbrev sLWeight : Stmt := topS 20
theorem scLWeight : FnScope ["_law_box_here", "_law_heavy"] ["_law_box_here", "_law_heavy"] (defScope sLWeight) := ⟨rfl, rfl, rfl, by decide +kernel, rfl, by decide +kernel, by decide +kernel⟩
abbrev sLWeb : Stmt := topS 21
theorem scLWeb : FnScope ["_law_box_here", "_law_many_here", "_law_heavy", "_law_ties", "_law_place", "_law_turn", "_law_one", "_law_other", "_law_pair"] ["_law_box_here", "_law_many_here"] (defScope sLWeb) := ⟨rfl, rfl, rfl, by decide +kernel, rfl, by decide +kernel, by decide +kernel⟩
abbrev sLPosts : Stmt := topS 22
theorem scLPosts : FnScope ["_law_box_here", "_law_many_here", "_law_most", "_law_some", "_law_found", "_law_turn"] ["_law_box_here", "_law_many_here", "_law_most"] (defScope sLPosts) := ⟨rfl, rfl, rfl, by decide +kernel, rfl, by decide +kernel, by decide +kernel⟩
abbrev sLWithPosts : Stmt := topS 23
theorem scLWithPosts : FnScope ["_law_box_here", "_law_web_here"] ["_law_box_here"] (defScope sLWithPosts) := ⟨rfl, rfl, rfl, by decide +kernel, rfl, by decide +kernel, by decide +kernel⟩
abbrev sLCut : Stmt := topS 24
theorem scLCut : FnScope ["_law_box_here", "_law_web_here", "_law_often", "_law_tie"] ["_law_box_here", "_law_web_here"] (defScope sLCut) := ⟨rfl, rfl, rfl, by decide +kernel, rfl, by decide +kernel, by decide +kernel⟩
abbrev sLOwners : Stmt := topS 25
theorem scLOwners : FnScope ["_law_box_here", "_law_web_here", "_law_posts_here", "_law_often", "_law_one", "_law_found", "_law_place", "_law_other"] ["_law_box_here", "_law_web_here", "_law_posts_here"] (defScope sLOwners) := ⟨rfl, rfl, rfl, by decide +kernel, rfl, by decide +kernel, by decide +kernel⟩
abbrev sLCutOf : Stmt := topS 26
theorem scLCutOf : FnScope ["_law_web_here", "_law_owners_here", "_law_tie"] ["_law_web_here", "_law_owners_here"] (defScope sLCutOf) := ⟨rfl, rfl, rfl, by decide +kernel, rfl, by decide +kernel, by decide +kernel⟩
abbrev sLPartingRight : Stmt := topS 27
theorem scLPartingRight : FnScope ["_law_web_here", "_law_posts_here", "_law_cut_here", "_law_some", "_law_owners_here", "_law_piece", "_law_less", "_law_left", "_law_fewer", "_law_place", "_law_pair"] ["_law_web_here", "_law_posts_here", "_law_cut_here", "_law_some"] (defScope sLPartingRight) := ⟨rfl, rfl, rfl, by decide +kernel, rfl, by decide +kernel, by decide +kernel⟩
abbrev sLaw : Stmt := topS 28
theorem scLaw : FnScope ["_law_script", "_law_k", "_law_box_here", "_law_web_here", "_law_posts_here", "_law_own", "_law_cut_here", "_law_some", "_law_piece", "_law_most", "_law_names", "_law_number", "_law_place", "_law_less", "_law_between", "_law_post", "_law_pair", "_law_tie"] ["_law_script"] (defScope sLaw) := ⟨rfl, rfl, rfl, by decide +kernel, rfl, by decide +kernel, by decide +kernel⟩

/-! ### defs, globals -/
/-- the module has no names of its own for these -/
structure Mg (mg : Str → Option Value) : Prop where
  dict : mg "dict" = none
  tuple : mg "tuple" = none
  sum : mg "sum" = none
  range : mg "range" = none
  len : mg "len" = none
  sorted : mg "sorted" = none
  min : mg "min" = none
  max : mg "max" = none
  all : mg "all" = none
  abs : mg "abs" = none
  int : mg "int" = none
  list : mg "list" = none
  set : mg "set" = none
  enumerate : mg "enumerate" = none
/-- a def of the text by its name: it keeps its promise -/
structure Dn (P : Program) (w : World) (K : PySem.W.Frag) (mg : Str → Option Value) (base : Heap) (x : Str) (k : Nat) (sp : Sp) : Prop where
  ex : ∃ (f : Addr) (fd : FuncData) (ps : List Str), FnOk P w K mg base CX0 k f fd ps sp ∧ mg x = some (.ref f) ∧ PySem.W.keepIn K (.ref f) = true ∧ Binds K fd ps []
theorem Dn.mono {P : Program} {w : World} {K : PySem.W.Frag} {mg : Str → Option Value} {base : Heap} {x : Str} {k j : Nat} {sp : Sp} (D : Dn P w K mg base x k sp) (h : k ≤ j) : Dn P w K mg base x j sp := by
  obtain ⟨f, fd, ps, F, r⟩ := D.ex
  exact ⟨f, fd, ps, F.mono h, r⟩
section
variable {X : Cx} {x : Str} {k : Nat} {sp : Sp} {p pos : Pos} {e : Expr} {es : List Expr} {t : TA}
theorem pe_dn (D : Dn X.prog X.w X.K X.mg X.base x k sp) (hr : Room k X.A) (hg : Gl X x) (ha : PA X (e :: es) t) (hdb : (x == ("__debug__" : Str)) = false := by decide)
    (he : starEach (e :: es) X.env = (false, eval e X.env) :: starEach es X.env := by rfl) (hpl : (backTo pos (starEach es X.env)).any (·.1) = false := by rfl) : PE X (.Call (.Name x p) (e :: es) [] pos) (tCall sp [] E0 t) := by
  obtain ⟨f, fd, ps, F, hm, kp, hb⟩ := D.ex
  exact pe_call F hr hg hm kp hb .nil pass0 ha hdb he hpl
end

/-! ### rules whose readings name the written part, for blocks -/
def rTupT (K : PySem.W.Frag) : List V → Hp → VK → Prop := fun xs H Q => ∃ a ys, xs = [.ref a] ∧ SqT K H a ys ∧ Q (.ref a) H
def rLenS (K : PySem.W.Frag) : List V → Hp → VK → Prop := fun xs H Q => ∃ p ys, xs = [.ref p] ∧ (SqL K H p ys ∨ SqT K H p ys) ∧ Q (.int (ys.length : Nat)) H
theorem cr_tupT {X : Cx} : CallR X (.type "tuple") (rTupT X.K) := call_tupleT
theorem cr_lenS {X : Cx} : CallR X (.builtin "len") (rLenS X.K) := call_len_seq

/-! ### the heap -/
theorem same_upd {H : Hp} {p : Addr} {o : HO} (h : H p = none) : Same H (upd H p o) := fun b x e => by
  rw [upd_ne (ne_of_none e h)]
  exact e
/-- a new object at p, written or not since -/
theorem same_at {H H1 : Hp} {p : Addr} {o : HO} (s : Same H H1) (h : H p = none) : Same H (upd H1 p o) := fun b x e => by
  rw [upd_ne (ne_of_none e h)]
  exact s b x e
theorem Same.tup {K : PySem.W.Frag} {H H' : Hp} {a : Addr} {xs : List V} (e : Same H H') (h : SqT K H a xs) : SqT K H' a xs := by
  rcases h with (h | ⟨o, h⟩) | h
  · exact .inl (.inl (e _ _ h))
  · exact .inl (.inr ⟨o, e _ _ h⟩)
  · exact .inr h
theorem sqT {K : PySem.W.Frag} {H : Hp} {a : Addr} {xs : List V} (h : H a = some (.tup xs)) : SqT K H a xs := .inl (.inl h)
theorem sqL {K : PySem.W.Frag} {H : Hp} {a : Addr} {xs : List V} (h : H a = some (.lst xs)) : SqL K H a xs := .inl (.inl h)

/-- a place's pair, as a tuple's values -/
abbrev prV (p : Int × Int) : List V := [.int p.1, .int p.2]
abbrev tieV (t : Tie) : List V := [.int t.1, .int t.2.1, .int t.2.2]
abbrev refs {α : Type} (l : List (Addr × α)) : List V := l.map fun p => V.ref p.1
/-- a cut: a list of pairs -/
structure CutAt (H : Hp) (c : Addr) (ps : List (Addr × (Int × Int))) : Prop where
  lst : H c = some (.lst (refs ps))
  each : ∀ p ∈ ps, H p.1 = some (.tup (prV p.2))
/-- a web -/
structure WebAt (H : Hp) (W : Addr) (n : Nat) (ts : List (Addr × Tie)) : Prop where
  ex : ∃ T, H W = some (.tup [.int n, .ref T]) ∧ H T = some (.tup (refs ts))
  each : ∀ t ∈ ts, H t.1 = some (.tup (tieV t.2))
abbrev vals {α β : Type} (l : List (α × β)) : List β := l.map fun p => p.2
theorem CutAt.same {H H' : Hp} {c : Addr} {ps : List (Addr × (Int × Int))} (h : CutAt H c ps) (s : Same H H') : CutAt H' c ps := ⟨s _ _ h.lst, fun p m => s _ _ (h.each p m)⟩
theorem WebAt.same {H H' : Hp} {W : Addr} {n : Nat} {ts : List (Addr × Tie)} (h : WebAt H W n ts) (s : Same H H') : WebAt H' W n ts := by
  obtain ⟨T, a, b⟩ := h.ex
  exact ⟨⟨T, s _ _ a, s _ _ b⟩, fun p m => s _ _ (h.each p m)⟩

/-! ### comprehensions in short -/
/-- within a comprehension that makes the list at D: what stood stands, i turns are gone, R of them and the list -/
def LcP (H1 : Hp) (D : Addr) (R : Nat → List V → Hp → Prop) (i : Nat) (H : Hp) : Prop := ∃ out, out.length ≤ i ∧ Same H1 H ∧ H D = some (.lst out) ∧ R i out H
theorem LcP.start {H1 : Hp} {D : Addr} {R : Nat → List V → Hp → Prop} (nD : H1 D = none) (r : R 0 [] (upd H1 D (.lst []))) : LcP H1 D R 0 (upd H1 D (.lst [])) := ⟨[], Nat.le_refl _, same_upd nD, upd_same, r⟩
theorem LcP.push {H1 H4 : Hp} {D : Addr} {R : Nat → List V → Hp → Prop} {i n : Nat} {out : List V} {y : V} (nD : H1 D = none) (hi : i < n) (hn : n ≤ 100000) (hl : out.length ≤ i) (s : Same H1 H4) (e : H4 D = some (.lst out)) (r : R (i + 1) (out ++ [y]) (upd H4 D (.lst (out ++ [y])))) :
    ∃ acc, H4 D = some (.lst acc) ∧ acc.length < sizeLine ∧ LcP H1 D R (i + 1) (upd H4 D (.lst (acc ++ [y]))) :=
  ⟨out, e, by rw [sizeLine_eq]; omega, out ++ [y], by rw [List.length_append]; exact Nat.succ_le_succ hl, same_at s nD, upd_same, r⟩
theorem LcP.skip {H1 H4 : Hp} {D : Addr} {R : Nat → List V → Hp → Prop} {i : Nat} {out : List V} (hl : out.length ≤ i) (s : Same H1 H4) (e : H4 D = some (.lst out)) (r : R (i + 1) out H4) : LcP H1 D R (i + 1) H4 := ⟨out, Nat.le_succ_of_le hl, s, e, r⟩
theorem take_more {α : Type} {l : List α} {i : Nat} {x : α} (h : l[i]? = some x) : l.take (i + 1) = l.take i ++ [x] := by
  rw [List.take_succ, h] <;> rfl
theorem take_at {α : Type} {l : List α} {i : Nat} (h : i < l.length) : l[i]? = some l[i] := List.getElem?_eq_getElem h
theorem refs_at {α : Type} {l : List (Addr × α)} {i : Nat} {x : V} (h : (refs l)[i]? = some x) : ∃ p, l[i]? = some p ∧ x = .ref p.1 := by
  unfold refs at h
  rw [List.getElem?_map] at h
  obtain ⟨p, e1, e2⟩ := Option.map_eq_some_iff.mp h
  exact ⟨p, e1, e2.symm⟩
/-- a pair as a dict's key -/
def ky (p : Int × Int) : List Key := [Sum.inl p.1, Sum.inl p.2]
theorem ky_inj {p q : Int × Int} (h : ky p = ky q) : p = q := by
  unfold ky at h
  injection h with h1 h2
  injection h2 with h2 _
  exact Prod.ext (Sum.inl.inj h1) (Sum.inl.inj h2)
/-- the keys of a dict that stands for a cut -/
def KeysOk (kvs : List (List Key × V)) (ps : List (Int × Int)) : Prop := ∀ k, k ∈ kvs.map (·.1) ↔ ∃ p ∈ ps, k = ky p
theorem KeysOk.has {kvs : List (List Key × V)} {ps : List (Int × Int)} (h : KeysOk kvs ps) (p : Int × Int) : (valV kvs (ky p)).isSome = decide (p ∈ ps) := by
  rw [Bool.eq_iff_iff, decide_eq_true_eq]
  constructor
  · intro q
    cases e : valV kvs (ky p) with
    | none => rw [e] at q; cases q
    | some v =>
      obtain ⟨r, hr, er⟩ := (h (ky p)).mp (valV_in e)
      rw [ky_inj er]; exact hr
  · intro q
    have hm := (h (ky p)).mpr ⟨p, q, rfl⟩
    cases e : valV kvs (ky p) with
    | none => exact absurd hm (valV_not e)
    | some v => rfl
end K8

/-! pairs_cut -/
namespace K8
open PySem PySem.Spec PyProof.Rows L2 K8S
section
variable {P : Program} {w : World} {K : PySem.W.Frag} {mg : Str → Option Value} {base : Heap}

def spPairsCut : Sp := fun vs H Q _ => ∃ (c : Addr) (ps : List (Addr × (Int × Int))), vs = [.ref c] ∧ CutAt H c ps ∧ ps.length ≤ 1000 ∧
  ∀ (H' : Hp) (d : Addr) (kvs : List (List Key × V)), Same H H' → H' d = some (.dT kvs) → kvs.length ≤ ps.length → KeysOk kvs (vals ps) → Q (.ref d) H'
theorem okPairsCut {f : Addr} {fd : FuncData} {k : Nat} (F : Fun K "pairs_cut" "pairs_cut" sPairsCut f fd) (T : Mg mg) : FnOk P w K mg base CX0 (k + 1) f fd ["cut"] spPairsCut := by
  refine F.ok scPairsCut (fun vs H Q E h => ?_) (fun cdv A outer s H vs Q E hr h => ?_)
  · obtain ⟨c, ps, rfl, _⟩ := h
    rfl
  · obtain ⟨c, ps, rfl, hC, hz, q⟩ := h
    refine ⟨_, pss_one (ps_ret (pe_callTy (cr_dictT rfl hr.units) (by rfl) T.dict (by decide +kernel) (pa_cons (pe_lc (own := [("pair", 1)]) (g := gName 1) (tt := tYes) rfl scPairsCut.nd (pi_list (pv 0)) (blkOk_by (N := ["cut", "pair"]) (sc := defScope sPairsCut) (by decide +kernel))
      (fun _ _ _ _ _ => pg_name (i := 1) scPairsCut.nd rfl (Or.inl rfl)) (fun _ _ _ _ _ => pts_nil) (fun _ _ _ _ _ => pe_tup (pa_cons (pe_callTy (T := "tuple") (r := rTupT K) cr_tupT (by rfl) T.tuple (by decide +kernel) (pa_cons (pv 1) pa_nil)) (pa_cons pe_bl pa_nil)))) pa_nil))), ?_⟩
    refine ⟨.ref c, rfl, c, rfl, ⟨_, sqL hC.lst⟩, fun D nD => ?_⟩
    refine lc_it (walk_list (K := K) (a := c) (xs := refs ps)) (LcP H D fun i out H3 => ∃ rows : List K8S.Row, out = (rows.map fun r => V.ref r.1) ∧ (∀ r ∈ rows, H3 r.1 = some (.tup [.ref r.2.1, .bl true])) ∧ (rows.map fun r => r.2) = (ps.take i).map fun p => (p.1, [p.2.1, p.2.2]))
      (LcP.start nD ⟨[], rfl, (fun _ z => by cases z), rfl⟩) (fun i H3 _ p => ?_) (fun i x H3 H4 hi p y => ?_) (fun H3 p => ?_)
    · obtain ⟨out, _, s3, _⟩ := p
      exact s3.seq (sqL hC.lst)
    · obtain ⟨out, hl, s3, e3, rows, rfl, hr3, hm⟩ := p
      obtain ⟨rfl, hx⟩ := y
      obtain ⟨p, hp, rfl⟩ := refs_at hx
      have hpm := List.mem_of_getElem? hp
      refine ⟨rfl, .ref p.1, rfl, p.1, prV p.2, rfl, sqT (s3 _ _ (hC.each p hpm)), by show 2 ≤ sizeLine; decide, fun t nt => ?_⟩
      have s4 : Same H4 (upd H4 t (.tup [.ref p.1, .bl true])) := same_upd nt
      have htD : t ≠ D := (ne_of_none e3 nt).symm
      refine LcP.push nD hi (by rw [List.length_map]; omega) hl (s3.trans s4) (s4 _ _ e3) ⟨rows ++ [(t, p.1, [p.2.1, p.2.2])], by rw [List.map_append] <;> rfl, fun r hr' => ?_, ?_⟩
      · rcases List.mem_append.mp hr' with z | z
        · have e := s4 _ _ (hr3 r z)
          rw [upd_ne (ne_of (hr3 r z) e3 (by intro z; cases z))]
          exact e
        · rw [List.mem_singleton.mp z]
          show upd _ D _ t = _
          rw [upd_ne htD, upd_same]
      · rw [List.map_append, hm, take_more hp, List.map_append] <;> rfl
    · obtain ⟨out, hl, s3, e3, rows, rfl, hr3, hm⟩ := p
      have hm' : (rows.map fun r => r.2) = ps.map fun p => (p.1, [p.2.1, p.2.2]) := by
        rw [hm, List.take_of_length_le (by rw [List.length_map]; exact Nat.le_refl _)]
      have hlen : rows.length = ps.length := by
        have := congrArg List.length hm'
        rwa [List.length_map, List.length_map] at this
      refine ⟨D, rows, rfl, sqL e3, by omega, fun r hr' => ⟨hr3 r hr', ?_⟩, fun d kvs nd hkl hk => ?_⟩
      · have hm2 : r.2 ∈ rows.map fun r => r.2 := List.mem_map.mpr ⟨r, hr', rfl⟩
        rw [hm'] at hm2
        obtain ⟨p, hp, e⟩ := List.mem_map.mp hm2
        rw [← e]
        exact s3 _ _ (hC.each p hp)
      · refine q _ d kvs (s3.trans (same_upd nd)) upd_same (by omega) fun k => ?_
        rw [hk]
        constructor
        · rintro ⟨r, hr', rfl⟩
          have hm2 : r.2 ∈ rows.map fun r => r.2 := List.mem_map.mpr ⟨r, hr', rfl⟩
          rw [hm'] at hm2
          obtain ⟨p, hp, e⟩ := List.mem_map.mp hm2
          refine ⟨p.2, List.mem_map.mpr ⟨p, hp, rfl⟩, ?_⟩
          rw [← e] <;> rfl
        · rintro ⟨p, hp, rfl⟩
          obtain ⟨p', hp', rfl⟩ := List.mem_map.mp hp
          have hm2 : (p'.1, [p'.2.1, p'.2.2]) ∈ rows.map fun r => r.2 := by
            rw [hm']
            exact List.mem_map.mpr ⟨p', hp', rfl⟩
          obtain ⟨r, hr', e⟩ := List.mem_map.mp hm2
          refine ⟨r, hr', ?_⟩
          rw [e] <;> rfl
end
end K8

/-! weight_of, without -/
namespace K8
open PySem PySem.Spec PyProof.Rows L2 K8S
theorem refs_snoc {α : Type} (l : List (Addr × α)) (x : Addr × α) : refs (l ++ [x]) = refs l ++ [.ref x.1] := List.map_append
theorem vals_take {α β : Type} (l : List (α × β)) (i : Nat) : vals (l.take i) = (vals l).take i := List.map_take
theorem vals_filter {α β : Type} (f : β → Bool) (l : List (α × β)) : vals (l.filter fun p => f p.2) = (vals l).filter f := by
  unfold vals
  rw [List.filter_map] <;> rfl
theorem filter_more {α : Type} (f : α → Bool) (l : List α) (x : α) : (l ++ [x]).filter f = if f x = true then l.filter f ++ [x] else l.filter f := by
  rw [List.filter_append, List.filter_cons, List.filter_nil]
  split
  · rfl
  · rw [List.append_nil]
/-- the parts that a cut leaves of a web's rows -/
def keptA (ts : List (Addr × Tie)) (cut : List (Int × Int)) : List (Addr × Tie) := ts.filter fun t => !decide (prOf t.2 ∈ cut)
theorem vals_kept (ts : List (Addr × Tie)) (cut : List (Int × Int)) : vals (keptA ts cut) = kept (vals ts) cut := vals_filter (fun t => !decide (prOf t ∈ cut)) ts
section
variable {P : Program} {w : World} {K : PySem.W.Frag} {mg : Str → Option Value} {base : Heap}

def spWeightOf : Sp := fun vs H Q _ => ∃ (W c : Addr) (n : Nat) (ts : List (Addr × Tie)) (ps : List (Addr × (Int × Int))), vs = [.ref W, .ref c] ∧ WebAt H W n ts ∧ CutAt H c ps ∧ ts.length ≤ 1000 ∧ ps.length ≤ 1000 ∧
  ∀ (H' : Hp), Same H H' → Q (.int (wsum (vals ts) (vals ps))) H'
theorem okWeightOf {f : Addr} {fd : FuncData} {k : Nat} (F : Fun K "weight_of" "weight_of" sWeightOf f fd) (T : Mg mg) (DP : Dn P w K mg base "pairs_cut" k spPairsCut) : FnOk P w K mg base CX0 (k + 1) f fd ["web", "cut"] spWeightOf := by
  refine F.ok scWeightOf (fun vs H Q E h => ?_) (fun cdv A outer s H vs Q E hr h => ?_)
  · obtain ⟨W, c, n, ts, ps, rfl, _⟩ := h
    rfl
  · obtain ⟨W, c, n, ts, ps, rfl, hW, hC, hz1, hz2, q⟩ := h
    obtain ⟨t0, eW, eT⟩ := hW.ex
    have hzr : (refs ts).length ≤ 100000 := by rw [List.length_map]; omega
    refine ⟨_, pss_cons (ps_set (i := 2) scWeightOf.nd rfl (.inr rfl) (pe_dn DP hr (by rfl) (pa_cons (pv 1) pa_nil)))
      (pss_one (ps_ret (pe_callB (cr_sum rfl) (by rfl) T.sum (by decide +kernel) (pa_cons (pe_lc (own := [("a", 3), ("b", 4), ("weight", 5)]) (g := gTup K 3 (gCons (gName 3) (gCons (gName 4) (gCons (gName 5) gNil)))) rfl scWeightOf.nd
        (pi_tup (pe_ix ix_tup (pv 0) pe_int (fun _ _ => rfl))) (blkOk_by (N := ["web", "cut", "there", "a", "b", "weight"]) (sc := defScope sWeightOf) (by decide +kernel))
        (fun _ _ _ _ _ => pg_tup rfl (pgs_cons (pg_name (i := 3) scWeightOf.nd rfl (.inl rfl)) (pgs_cons (pg_name (i := 4) scWeightOf.nd rfl (.inl rfl)) (pgs_cons (pg_name (i := 5) scWeightOf.nd rfl (.inl rfl)) pgs_nil))))
        (fun _ _ _ _ _ => pts_one (pt_cmp (pc_din (hu_of hr) (pe_tup (pa_cons (pv 3) (pa_cons (pv 4) pa_nil))) (pv 2)))) (fun _ _ _ _ _ => pv 5)) pa_nil)))), ?_⟩
    refine ⟨.ref c, rfl, c, ps, rfl, hC, hz2, fun H1 d kvs s1 ed hkl hk => ?_⟩
    have eW1 := s1 _ _ eW
    have eT1 := s1 _ _ eT
    refine ⟨.ref W, rfl, W, _, 1, .ref t0, rfl, rfl, sqT eW1, atI_nat (j := 1) rfl, t0, rfl, ⟨_, sqT eT1⟩, fun D nD => ?_⟩
    refine lc_it (walk_tup (K := K) (a := t0) (xs := refs ts)) (LcP H1 D fun i out H3 => out = ((((vals ts).take i).filter fun t => decide (prOf t ∈ vals ps)).map fun t => V.int t.2.2))
      (LcP.start nD rfl) (fun i H3 _ p => ?_) (fun i x H3 H4 hi p y => ?_) (fun H3 p => ?_)
    · obtain ⟨out, _, s3, _⟩ := p
      exact Same.tup s3 (sqT eT1)
    · obtain ⟨out, hl, s3, e3, eo⟩ := p
      obtain ⟨rfl, hx⟩ := y
      obtain ⟨t, ht, rfl⟩ := refs_at hx
      have htm := List.mem_of_getElem? ht
      have et := s3 _ _ (s1 _ _ (hW.each t htm))
      have hv : (vals ts)[i]? = some t.2 := by rw [List.getElem?_map, ht] <;> rfl
      refine ⟨t.1, tieV t.2, rfl, sqT et, rfl, _, _, rfl, _, _, rfl, _, _, rfl, rfl, rfl, .int t.2.1, rfl, .int t.2.2.1, rfl, by show 2 ≤ sizeLine; decide, fun u nu => ?_⟩
      have s4 : Same H4 (upd H4 u (.tup [.int t.2.1, .int t.2.2.1])) := same_upd nu
      refine ⟨.ref d, rfl, d, valV kvs (ky (prOf t.2)), rfl, DGet.t (s4 _ _ (s3 _ _ ed)) upd_same, ?_⟩
      rw [hk.has]
      refine ⟨_, rfl, ite2 (fun c => ?_) (fun c => ?_)⟩
      · refine ⟨.int t.2.2.2, rfl, ?_⟩
        refine LcP.push nD hi hzr hl (s3.trans s4) (s4 _ _ e3) ?_
        rw [take_more hv, filter_more, if_pos c, List.map_append, eo] <;> rfl
      · refine LcP.skip hl (s3.trans s4) (s4 _ _ e3) ?_
        rw [take_more hv, filter_more, if_neg c, eo]
    · obtain ⟨out, hl, s3, e3, eo⟩ := p
      have hw : ((vals ts).take (refs ts).length) = vals ts := List.take_of_length_le (by rw [List.length_map, List.length_map]; exact Nat.le_refl _)
      rw [hw] at eo
      refine ⟨D, ((vals ts).filter fun t => decide (prOf t ∈ vals ps)).map (fun t : Tie => t.2.2), rfl, ?_, q H3 (s1.trans s3)⟩
      rw [List.map_map]
      rw [eo] at e3
      exact sqL e3

def spWithout : Sp := fun vs H Q _ => ∃ (W c : Addr) (n : Nat) (ts : List (Addr × Tie)) (ps : List (Addr × (Int × Int))), vs = [.ref W, .ref c] ∧ WebAt H W n ts ∧ CutAt H c ps ∧ ts.length ≤ 1000 ∧ ps.length ≤ 1000 ∧
  ∀ (H' : Hp) (p : Addr), Same H H' → WebAt H' p n (keptA ts (vals ps)) → Q (.ref p) H'
theorem okWithout {f : Addr} {fd : FuncData} {k : Nat} (F : Fun K "without" "without" sWithout f fd) (T : Mg mg) (DP : Dn P w K mg base "pairs_cut" k spPairsCut) : FnOk P w K mg base CX0 (k + 1) f fd ["web", "cut"] spWithout := by
  refine F.ok scWithout (fun vs H Q E h => ?_) (fun cdv A outer s H vs Q E hr h => ?_)
  · obtain ⟨W, c, n, ts, ps, rfl, _⟩ := h
    rfl
  · obtain ⟨W, c, n, ts, ps, rfl, hW, hC, hz1, hz2, q⟩ := h
    obtain ⟨t0, eW, eT⟩ := hW.ex
    have hzr : (refs ts).length ≤ 100000 := by rw [List.length_map]; omega
    refine ⟨_, pss_cons (ps_set (i := 2) scWithout.nd rfl (.inr rfl) (pe_dn DP hr (by rfl) (pa_cons (pv 1) pa_nil)))
      (pss_one (ps_ret (pe_tup (pa_cons (pe_ix ix_tup (pv 0) pe_int (fun _ _ => rfl)) (pa_cons (pe_callTy call_tuple_of (by rfl) T.tuple (by decide +kernel) (pa_cons (pe_lc (own := [("tie", 3)]) (g := gName 3) rfl scWithout.nd
        (pi_tup (pe_ix ix_tup (pv 0) pe_int (fun _ _ => rfl))) (blkOk_by (N := ["web", "cut", "there", "tie"]) (sc := defScope sWithout) (by decide +kernel))
        (fun _ _ _ _ _ => pg_name (i := 3) scWithout.nd rfl (.inl rfl))
        (fun _ _ _ _ _ => pts_one (pt_cmp (pc_dnotin (hu_of hr) (pe_slice (r := rSlT K) sl_tup (pv 3) po_none (po_some pe_int)) (pv 2)))) (fun _ _ _ _ _ => pv 3)) pa_nil)) pa_nil))))), ?_⟩
    refine ⟨.ref c, rfl, c, ps, rfl, hC, hz2, fun H1 d kvs s1 ed hkl hk => ?_⟩
    have eW1 := s1 _ _ eW
    have eT1 := s1 _ _ eT
    refine ⟨.ref W, rfl, W, _, 0, .int n, rfl, rfl, sqT eW1, atI_nat (j := 0) rfl, .ref W, rfl, W, _, 1, .ref t0, rfl, rfl, sqT eW1, atI_nat (j := 1) rfl, t0, rfl, ⟨_, sqT eT1⟩, fun D nD => ?_⟩
    refine lc_it (walk_tup (K := K) (a := t0) (xs := refs ts)) (LcP H1 D fun i out H3 => out = refs (keptA (ts.take i) (vals ps)))
      (LcP.start nD rfl) (fun i H3 _ p => ?_) (fun i x H3 H4 hi p y => ?_) (fun H3 p => ?_)
    · obtain ⟨out, _, s3, _⟩ := p
      exact Same.tup s3 (sqT eT1)
    · obtain ⟨out, hl, s3, e3, eo⟩ := p
      obtain ⟨rfl, hx⟩ := y
      obtain ⟨t, ht, rfl⟩ := refs_at hx
      have htm := List.mem_of_getElem? ht
      have et := s3 _ _ (s1 _ _ (hW.each t htm))
      refine ⟨rfl, .ref t.1, rfl, 2, rfl, t.1, tieV t.2, rfl, sqT et, by show ¬ (0 = 0 ∧ 2 = 3); decide, fun u nu => ?_⟩
      have s4 : Same H4 (upd H4 u (.tup (cutV (tieV t.2) none (some 2)))) := same_upd nu
      refine ⟨.ref d, rfl, d, valV kvs (ky (prOf t.2)), rfl, DGet.t (s4 _ _ (s3 _ _ ed)) upd_same, ?_⟩
      rw [hk.has]
      refine ⟨_, rfl, ite2 (fun c => ?_) (fun c => ?_)⟩
      · refine ⟨.ref t.1, rfl, ?_⟩
        refine LcP.push nD hi hzr hl (s3.trans s4) (s4 _ _ e3) ?_
        rw [keptA, take_more ht, filter_more, if_pos c, eo]
        exact (refs_snoc _ _).symm
      · refine LcP.skip hl (s3.trans s4) (s4 _ _ e3) ?_
        rw [keptA, take_more ht, filter_more, if_neg c, eo] <;> rfl
    · obtain ⟨out, hl, s3, e3, eo⟩ := p
      have hw : ts.take (refs ts).length = ts := List.take_of_length_le (by rw [List.length_map]; exact Nat.le_refl _)
      rw [hw] at eo
      subst eo
      refine ⟨D, _, rfl, .inl ⟨sqL e3, fun T' nT' => ⟨by show 2 ≤ sizeLine; decide, fun p np => ?_⟩⟩⟩
      have s5 : Same H3 (upd H3 T' (.tup (refs (keptA ts (vals ps))))) := same_upd nT'
      have s6 := same_upd (o := .tup [.int n, .ref T']) np
      have ss := s1.trans (s3.trans (s5.trans s6))
      exact q _ p ss ⟨⟨T', upd_same, s6 _ _ upd_same⟩, fun t ht => ss _ _ (hW.each t (List.mem_filter.mp ht).1)⟩
end
end K8

/-! beside -/
namespace K8
open PySem PySem.Spec PyProof.Rows L2 K8S
/-- for each place those to which it is tied -/
def NearAt (H : Hp) (l : Addr) (n : Nat) (ts : List Tie) : Prop := ∃ ls : List (Addr × List Int), H l = some (.lst (refs ls)) ∧ ls.length = n ∧ (∀ p ∈ ls, H p.1 = some (.lst (p.2.map V.int))) ∧
  ∀ (i : Nat) (p : Addr × List Int), ls[i]? = some p → p.2.length ≤ 2000 ∧ ∀ j, j ∈ p.2 ↔ Adj ts (i : Int) j
theorem NearAt.same {H H' : Hp} {l : Addr} {n : Nat} {ts : List Tie} (h : NearAt H l n ts) (s : Same H H') : NearAt H' l n ts := by
  obtain ⟨ls, h1, h2, h3, h4⟩ := h
  exact ⟨ls, s _ _ h1, h2, fun p m => s _ _ (h3 p m), h4⟩
/-- the lists while they are filled -/
structure Fil (H H3 : Hp) (l : Addr) (ls : List (Addr × List Int)) : Prop where
  lst : H3 l = some (.lst (refs ls))
  nd : (ls.map (·.1)).Nodup
  each : ∀ p ∈ ls, H3 p.1 = some (.lst (p.2.map V.int)) ∧ H p.1 = none ∧ p.1 ≠ l
  same : Same H H3
theorem Fil.put {H H3 : Hp} {l : Addr} {ls : List (Addr × List Int)} {i : Nat} {p : Addr × List Int} (F : Fil H H3 l ls) (h : ls[i]? = some p) (b : Int) : Fil H (upd H3 p.1 (.lst (p.2.map V.int ++ [V.int b]))) l (ls.set i (p.1, p.2 ++ [b])) := by
  have hm := List.mem_of_getElem? h
  obtain ⟨e1, e2, e3⟩ := F.each p hm
  have hi := (List.getElem?_eq_some_iff.mp h).1
  have er : (ls.set i (p.1, p.2 ++ [b])).map (·.1) = ls.map (·.1) := by
    rw [List.map_set]
    refine List.ext_getElem? fun j => ?_
    by_cases c : i = j
    · subst c
      rw [List.getElem?_set_self (by rw [List.length_map]; exact hi), List.getElem?_map, h] <;> rfl
    · rw [List.getElem?_set_ne c]
  have er2 : refs (ls.set i (p.1, p.2 ++ [b])) = refs ls := by
    have e : ∀ m : List (Addr × List Int), refs m = (m.map (·.1)).map V.ref := fun m => by rw [List.map_map] <;> rfl
    rw [e, e, er]
  refine ⟨by rw [upd_ne (Ne.symm e3), er2]; exact F.lst, by rw [er]; exact F.nd, fun q hq => ?_, same_at F.same e2⟩
  obtain ⟨j, hj, ej⟩ := List.getElem_of_mem hq
  have ej' : (ls.set i (p.1, p.2 ++ [b]))[j]? = some q := by rw [List.getElem?_eq_getElem hj, ej]
  by_cases c : i = j
  · subst c
    rw [List.getElem?_set_self hi] at ej'
    cases ej'
    exact ⟨by rw [upd_same, List.map_append] <;> rfl, e2, e3⟩
  · rw [List.getElem?_set_ne c] at ej'
    have hqm := List.mem_of_getElem? ej'
    obtain ⟨f1, f2, f3⟩ := F.each q hqm
    refine ⟨?_, f2, f3⟩
    rw [upd_ne fun z => c ?_]
    · exact f1
    · refine (nd_ix F.nd (i := i) (j := j) (x := p.1) ?_ ?_)
      · rw [List.getElem?_map, h] <;> rfl
      · rw [List.getElem?_map, ej', ← z] <;> rfl
theorem set_get {α : Type} {ls : List α} {i j : Nat} {x y : α} (hi : i < ls.length) (h : (ls.set i x)[j]? = some y) : (j = i ∧ y = x) ∨ (j ≠ i ∧ ls[j]? = some y) := by
  by_cases c : i = j
  · subst c
    rw [List.getElem?_set_self hi] at h
    exact .inl ⟨rfl, (Option.some.inj h).symm⟩
  · rw [List.getElem?_set_ne c] at h
    exact .inr ⟨fun e => c e.symm, h⟩
/-- what the lists hold -/
def Con (ls : List (Addr × List Int)) (m : Nat) (R : Int → Int → Prop) : Prop := ∀ (i : Nat) (p : Addr × List Int), ls[i]? = some p → p.2.length ≤ m ∧ ∀ j, j ∈ p.2 ↔ R (i : Int) j
theorem Con.put {ls : List (Addr × List Int)} {m : Nat} {R : Int → Int → Prop} (C : Con ls m R) {i : Nat} {p : Addr × List Int} (h : ls[i]? = some p) (b : Int) : Con (ls.set i (p.1, p.2 ++ [b])) (m + 1) fun x y => R x y ∨ (x = i ∧ y = b) := by
  intro j q hq
  have hi := (List.getElem?_eq_some_iff.mp h).1
  rcases set_get hi hq with ⟨rfl, rfl⟩ | ⟨c, e⟩
  · obtain ⟨c1, c2⟩ := C j p h
    refine ⟨by rw [List.length_append]; exact Nat.succ_le_succ c1, fun y => ?_⟩
    rw [List.mem_append, List.mem_singleton, c2]
    simp
  · obtain ⟨c1, c2⟩ := C j q e
    refine ⟨Nat.le_succ_of_le c1, fun y => ?_⟩
    rw [c2]
    have : ¬ ((j : Int) = i) := by omega
    simp [this]
theorem Con.congr {ls : List (Addr × List Int)} {m : Nat} {R S : Int → Int → Prop} (C : Con ls m R) (h : ∀ x y, R x y ↔ S x y) : Con ls m S := fun i p e => ⟨(C i p e).1, fun j => ((C i p e).2 j).trans (h _ _)⟩
theorem adj_more {ts : List Tie} {k : Nat} {t : Tie} (h : ts[k]? = some t) (x y : Int) : Adj (ts.take (k + 1)) x y ↔ (Adj (ts.take k) x y ∨ (x = t.1 ∧ y = t.2.1)) ∨ (x = t.2.1 ∧ y = t.1) := by
  rw [take_more h]
  constructor
  · rintro ⟨u, hu, c⟩
    rcases List.mem_append.mp hu with z | z
    · exact .inl (.inl ⟨u, z, c⟩)
    · rw [List.mem_singleton.mp z] at c
      rcases c with ⟨c1, c2⟩ | ⟨c1, c2⟩
      · exact .inl (.inr ⟨c1.symm, c2.symm⟩)
      · exact .inr ⟨c2.symm, c1.symm⟩
  · rintro ((⟨u, hu, c⟩ | ⟨c1, c2⟩) | ⟨c1, c2⟩)
    · exact ⟨u, List.mem_append_left _ hu, c⟩
    · exact ⟨t, List.mem_append_right _ (List.mem_singleton.mpr rfl), .inl ⟨c1.symm, c2.symm⟩⟩
    · exact ⟨t, List.mem_append_right _ (List.mem_singleton.mpr rfl), .inr ⟨c2.symm, c1.symm⟩⟩
theorem nat_of {a : Int} {n : Nat} (h : 0 ≤ a ∧ a < n) : ∃ i : Nat, a = i ∧ i < n := ⟨a.toNat, by omega, by omega⟩
section
variable {P : Program} {w : World} {K : PySem.W.Frag} {mg : Str → Option Value} {base : Heap}
def spBeside : Sp := fun vs H Q _ => ∃ (W : Addr) (n : Nat) (ts : List (Addr × Tie)), vs = [.ref W] ∧ WebAt H W n ts ∧ WebR n (vals ts) ∧ ts.length ≤ 1000 ∧ n ≤ 1000 ∧
  ∀ (H' : Hp) (l : Addr), Same H H' → (∀ H2 : Hp, (∀ a x, H a = none → H' a = some x → H2 a = some x) → NearAt H2 l n (vals ts)) → Q (.ref l) H'
theorem okBeside {f : Addr} {fd : FuncData} {k : Nat} (F : Fun K "beside" "beside" sBeside f fd) (T : Mg mg) : FnOk P w K mg base CX0 (k + 1) f fd ["web"] spBeside := by
  refine F.ok scBeside (fun vs H Q E h => ?_) (fun cdv A outer s H vs Q E hr h => ?_)
  · obtain ⟨W, n, ts, rfl, _⟩ := h
    rfl
  · obtain ⟨W, n, ts, rfl, hW, hR, hz1, hz2, q⟩ := h
    obtain ⟨t0, eW, eT⟩ := hW.ex
    refine ⟨_, pss_cons (ps_setLc (i := 1) (own := [("place", 5)]) (g := gName 5) rfl scBeside.nd rfl rfl (sw_true rfl rfl rfl (by decide +kernel)) (pi_range1 (by rfl) T.range (pa_cons (pe_ix ix_tup (pv 0) pe_int (fun _ _ => rfl)) pa_nil))
        (blkOk_by (N := ["web", "found", "a", "b", "weight", "place"]) (sc := defScope sBeside) (by decide +kernel)) (fun _ _ _ _ _ => pg_name (i := 5) scBeside.nd rfl (.inl rfl)) (fun _ _ _ _ _ => pts_nil) (fun _ _ _ _ _ => pe_lst pa_nil))
      (pss_cons (ps_for PassesOwn.never rfl (pi_tup (pe_ix ix_tup (pv 0) pe_int (fun _ _ => rfl))) (pg_tup rfl (pgs_cons (pg_name (i := 2) scBeside.nd rfl (.inl rfl)) (pgs_cons (pg_name (i := 3) scBeside.nd rfl (.inl rfl)) (pgs_cons (pg_name (i := 4) scBeside.nd rfl (.inl rfl)) pgs_nil))))
        (pss_cons (ps_expr (pe_bm PySem.F.plainAttrs_list PySem.F.slot_list_append PySem.F.type_list_append mt_append (pe_ix ix_list (pv 1) (pv 2) (fun _ _ => rfl)) (pa_cons (pv 3) pa_nil)))
        (pss_one (ps_expr (pe_bm PySem.F.plainAttrs_list PySem.F.slot_list_append PySem.F.type_list_append mt_append (pe_ix ix_list (pv 1) (pv 3) (fun _ _ => rfl)) (pa_cons (pv 2) pa_nil))))))
      (pss_one (ps_ret (pv 1)))), ?_⟩
    refine ⟨.ref W, rfl, W, _, 0, .int n, rfl, rfl, sqT eW, atI_nat (j := 0) rfl, n, rfl, by omega, by omega, fun D nD => ?_⟩
    refine lc_it walk_range (LcP H D fun i out H3 => ∃ ls : List (Addr × List Int), out = refs ls ∧ ls.length = i ∧ (ls.map (·.1)).Nodup ∧ ∀ p ∈ ls, H3 p.1 = some (.lst []) ∧ p.2 = [] ∧ H p.1 = none ∧ p.1 ≠ D)
      (LcP.start nD ⟨[], rfl, rfl, List.nodup_nil, fun _ z => by cases z⟩) (fun i H3 _ p => trivial) (fun i x H3 H4 hi p y => ?_) (fun H3 p => ?_)
    · obtain ⟨out, hl, s3, e3, ls, eo, hls, hnd, he⟩ := p
      obtain ⟨rfl, rfl⟩ := y
      refine ⟨rfl, Nat.zero_le _, fun u nu => ?_⟩
      have s4 : Same H4 (upd H4 u (.lst [])) := same_upd nu
      have huD : D ≠ u := ne_of_none e3 nu
      refine LcP.push nD hi (by show n ≤ 100000; omega) hl (s3.trans s4) (s4 _ _ e3) ⟨ls ++ [(u, [])], by rw [eo]; exact (refs_snoc ls (u, [])).symm, by rw [List.length_append, hls] <;> rfl, ?_, fun p hp => ?_⟩
      · rw [List.map_append]
        refine nd_snoc hnd fun z => ?_
        obtain ⟨p, hp, e⟩ := List.mem_map.mp z
        exact ne_of_none (he p hp).1 nu e
      · rcases List.mem_append.mp hp with z | z
        · obtain ⟨h1, h2, h3, h4⟩ := he p z
          exact ⟨by rw [upd_ne h4]; exact s4 _ _ h1, h2, h3, h4⟩
        · rw [List.mem_singleton.mp z]
          exact ⟨by rw [upd_ne huD.symm, upd_same], rfl, s3.free nu, huD.symm⟩
    · obtain ⟨out, hl, s3, e3, ls, eo, hls, hnd, he⟩ := p
      subst eo
      have eT3 := s3 _ _ eT
      refine ⟨.ref W, rfl, W, _, 1, .ref t0, rfl, rfl, sqT (s3 _ _ eW), atI_nat (j := 1) rfl, t0, rfl, ⟨_, sqT eT3⟩, ?_⟩
      refine for_tup (K := K) (a := t0) (xs := refs ts) (fun i σ H4 => ∃ y2 y3 y4 ls, σ = [some (.ref W), some (.ref D), y2, y3, y4, none] ∧ Fil H H4 D ls ∧ ls.length = n ∧ Con ls (2 * i) (Adj ((vals ts).take i)))
        ⟨none, none, none, ls, rfl, ⟨e3, hnd, fun p hp => ⟨by rw [(he p hp).2.1]; exact (he p hp).1, (he p hp).2.2⟩, s3⟩, hls, fun i p hp => ?_⟩ (fun i σ H4 _ p => ?_) (fun i x σ H4 hx p => ?_) (fun σ H4 p => ?_)
      · have hpm := List.mem_of_getElem? hp
        rw [(he p hpm).2.1]
        refine ⟨Nat.zero_le _, fun j => ⟨(fun z => by cases z), ?_⟩⟩
        rintro ⟨t, ht, _⟩
        rw [List.take_zero] at ht
        cases ht
      · obtain ⟨y2, y3, y4, ls, _, F4, _⟩ := p
        exact sqT (F4.same _ _ eT)
      · obtain ⟨y2, y3, y4, ls, rfl, F4, hln, C4⟩ := p
        obtain ⟨t, ht, rfl⟩ := refs_at hx
        have htm := List.mem_of_getElem? ht
        have hv : (vals ts)[i]? = some t.2 := by rw [List.getElem?_map, ht] <;> rfl
        have hil : i < ts.length := (List.getElem?_eq_some_iff.mp ht).1
        obtain ⟨ha, hb, _⟩ := hR t.2 (List.mem_of_getElem? hv)
        obtain ⟨a, ea, ha⟩ := nat_of ha
        obtain ⟨b, eb, hb⟩ := nat_of hb
        refine ⟨t.1, tieV t.2, rfl, sqT (F4.same _ _ (hW.each t htm)), rfl, _, _, rfl, _, _, rfl, _, _, rfl, rfl, ?_⟩
        obtain ⟨p, hp⟩ : ∃ p, ls[a]? = some p := ⟨_, List.getElem?_eq_getElem (by omega)⟩
        have hp2 := F4.each p (List.mem_of_getElem? hp)
        refine ⟨.ref D, rfl, .int t.2.1, rfl, D, _, t.2.1, .ref p.1, rfl, rfl, sqL F4.lst, at_of ea (by rw [List.getElem?_map, hp] <;> rfl), .inl ⟨rfl, _, sqL hp2.1⟩, .int t.2.2.1, rfl, p.1, _, _, rfl, rfl, hp2.1, by rw [List.length_map, sizeLine_eq]; have := (C4 a p hp).1; omega, ?_⟩
        have F5 := F4.put hp t.2.2.1
        have C5 := C4.put hp t.2.2.1
        have hln5 : (ls.set a (p.1, p.2 ++ [t.2.2.1])).length = n := by rw [List.length_set, hln]
        generalize ls.set a (p.1, p.2 ++ [t.2.2.1]) = ls5 at F5 C5 hln5
        obtain ⟨p', hp'⟩ : ∃ p', ls5[b]? = some p' := ⟨_, List.getElem?_eq_getElem (by omega)⟩
        have hp3 := F5.each p' (List.mem_of_getElem? hp')
        refine ⟨.ref D, rfl, .int t.2.2.1, rfl, D, _, t.2.2.1, .ref p'.1, rfl, rfl, sqL F5.lst, at_of eb (by rw [List.getElem?_map, hp'] <;> rfl), .inl ⟨rfl, _, sqL hp3.1⟩, .int t.2.1, rfl, p'.1, _, _, rfl, rfl, hp3.1, by rw [List.length_map, sizeLine_eq]; have := (C5 b p' hp').1; omega, ?_⟩
        have C6 := C5.put hp' t.2.1
        refine ⟨_, _, _, ls5.set b (p'.1, p'.2 ++ [t.2.1]), rfl, F5.put hp' t.2.1, by rw [List.length_set, hln5], ?_⟩
        have e2 : 2 * i + 1 + 1 = 2 * (i + 1) := by omega
        rw [e2] at C6
        refine C6.congr fun x y => ?_
        rw [adj_more hv, ← ea, ← eb]
      · obtain ⟨y2, y3, y4, ls, rfl, F4, hln, C4⟩ := p
        have hw : (vals ts).take (refs ts).length = vals ts := List.take_of_length_le (by rw [List.length_map, List.length_map]; exact Nat.le_refl _)
        rw [hw] at C4
        refine ⟨.ref D, rfl, q H4 D F4.same fun H5 h5 => ⟨ls, h5 _ _ nD F4.lst, hln, fun p hp => h5 _ _ (F4.each p hp).2.1 (F4.each p hp).1, fun i p hp => ⟨?_, (C4 i p hp).2⟩⟩⟩
        have := (C4 i p hp).1
        rw [List.length_map] at this
        omega
end
end K8

/-! hangs_on -/
namespace K8
open PySem PySem.Spec PyProof.Rows L2 K8S
theorem nd_len : ∀ (n : Nat) (l : List Int), l.Nodup → (∀ x ∈ l, 0 ≤ x ∧ x < n) → l.length ≤ n
  | 0, [], _, _ => Nat.le_refl _
  | 0, x :: r, _, h => by
    have := h x List.mem_cons_self
    omega
  | n + 1, l, nd, h => by
    have h1 := nd_len n (l.erase (n : Int)) (nd.erase _) fun x hx => by
      have h2 := (List.Nodup.mem_erase_iff nd).mp hx
      have h3 := h x h2.2
      have h4 := h2.1
      omega
    have h5 : l.length - 1 ≤ (l.erase (n : Int)).length := by
      rw [List.length_erase]
      split <;> omega
    omega
/-- a dict whose keys are ints, all true -/
def metK (ms : List Int) : List (Key × V) := ms.map fun y => (Sum.inl y, V.bl true)
theorem metK_keys (ms : List Int) : (metK ms).map (·.1) = ms.map Sum.inl := by
  unfold metK
  rw [List.map_map] <;> rfl
theorem metK_has (ms : List Int) (y : Int) : (valV (metK ms) (Sum.inl y)).isSome = decide (y ∈ ms) := by
  rw [Bool.eq_iff_iff, decide_eq_true_eq]
  have hm : ∀ z : Int, (Sum.inl z : Key) ∈ (metK ms).map (·.1) ↔ z ∈ ms := fun z => by
    rw [metK_keys, List.mem_map]
    exact ⟨fun ⟨u, hu, e⟩ => by rw [← Sum.inl.inj e]; exact hu, fun h => ⟨z, h, rfl⟩⟩
  constructor
  · intro q
    cases e : valV (metK ms) (Sum.inl y) with
    | none => rw [e] at q; cases q
    | some v => exact (hm y).mp (valV_in e)
  · intro q
    cases e : valV (metK ms) (Sum.inl y) with
    | none => exact absurd ((hm y).mpr q) (valV_not e)
    | some v => rfl
theorem metK_put {ms : List Int} {y : Int} (h : y ∉ ms) : putK (metK ms) (Sum.inl y) (V.bl true) = metK (ms ++ [y]) := by
  have e : valV (metK ms) (Sum.inl y) = none := by
    have := metK_has ms y
    rw [decide_eq_false h] at this
    cases q : valV (metK ms) (Sum.inl y) with
    | none => rfl
    | some v => rw [q] at this; cases this
  rw [putK_new _ e]
  unfold metK
  rw [List.map_append] <;> rfl
/-- the search: met, waiting, and one whose neighbours are being met -/
structure Hg (n : Nat) (ts : List Tie) (x : Int) (S : Int → Prop) (ms ws : List Int) (M : Nat) : Prop where
  nd : ms.Nodup
  mem : x ∈ ms
  rch : ∀ y ∈ ms, Reach ts x y
  sub : ∀ y ∈ ws, y ∈ ms
  cl : ∀ u ∈ ms, u ∉ ws → ¬ S u → ∀ v, Adj ts u v → v ∈ ms
  len : 2 * (n - ms.length) + ws.length ≤ M
theorem Hg.le {n : Nat} {ts : List Tie} {x : Int} {S : Int → Prop} {ms ws : List Int} {M : Nat} (h : Hg n ts x S ms ws M) (W : WebR n ts) (hx : 0 ≤ x ∧ x < n) : ms.length ≤ n := nd_len n ms h.nd fun y hy => W.reach hx (h.rch y hy)
theorem Hg.more {n : Nat} {ts : List Tie} {x : Int} {S : Int → Prop} {ms ws : List Int} {M : Nat} (h : Hg n ts x S ms ws M) (W : WebR n ts) (hx : 0 ≤ x ∧ x < n) {y : Int} (hy : y ∉ ms) (r : Reach ts x y) : Hg n ts x S (ms ++ [y]) (ws ++ [y]) M := by
  have nd2 : (ms ++ [y]).Nodup := nd_snoc h.nd hy
  have r2 : ∀ z ∈ ms ++ [y], Reach ts x z := fun z hz => by
    rcases List.mem_append.mp hz with q | q
    · exact h.rch z q
    · rw [List.mem_singleton.mp q]; exact r
  have hl := nd_len n _ nd2 fun z hz => W.reach hx (r2 z hz)
  refine ⟨nd2, List.mem_append_left _ h.mem, r2, fun z hz => ?_, fun u hu hnu hs v a => ?_, ?_⟩
  · rcases List.mem_append.mp hz with q | q
    · exact List.mem_append_left _ (h.sub z q)
    · exact List.mem_append_right _ q
  · rcases List.mem_append.mp hu with q | q
    · exact List.mem_append_left _ (h.cl u q (fun z => hnu (List.mem_append_left _ z)) hs v a)
    · exact absurd (List.mem_append_right _ q) hnu
  · have := h.len
    rw [List.length_append, List.length_singleton] at hl ⊢
    rw [List.length_append, List.length_singleton]
    omega
section
variable {P : Program} {w : World} {K : PySem.W.Frag} {mg : Str → Option Value} {base : Heap}
def spHangsOn : Sp := fun vs H Q _ => ∃ (l : Addr) (x : Int) (n : Nat) (ts : List Tie), vs = [.ref l, .int x] ∧ NearAt H l n ts ∧ WebR n ts ∧ (0 ≤ x ∧ x < n) ∧ n < 64 ∧
  ∀ (H' : Hp) (p : Addr) (cs : List Int), Same H H' → H p = none → H' p = some (.lst (cs.map V.int)) → cs.Nodup → (∀ y, y ∈ cs ↔ Reach ts x y) → cs.length ≤ n → Q (.ref p) H'
theorem okHangsOn {f : Addr} {fd : FuncData} {k : Nat} (F : Fun K "hangs_on" "hangs_on" sHangsOn f fd) (T : Mg mg) : FnOk P w K mg base CX0 (k + 1) f fd ["near", "place"] spHangsOn := by
  refine F.ok scHangsOn (fun vs H Q E h => ?_) (fun cdv A outer s H vs Q E hr h => ?_)
  · obtain ⟨l, x, n, ts, rfl, _⟩ := h
    rfl
  · obtain ⟨l, x, n, ts, rfl, hN, hR, hx, hn, q⟩ := h
    obtain ⟨ls, el, hln, hls, hadj⟩ := hN
    refine ⟨_, pss_cons (ps_set (i := 2) scHangsOn.nd rfl (.inl rfl) (pe_disp (pps_cons (pv 1) pe_bl pps_nil) (by rfl) (by rfl) (fun z => by cases z) (by decide)))
      (pss_cons (ps_set (i := 3) scHangsOn.nd rfl (.inl rfl) (pe_lst (pa_cons (pv 1) pa_nil)))
      (pss_cons (ps_while PassesOwn.never (pt_cmpR op_gt (pe_callB (r := rLenS K) cr_lenS (by rfl) T.len (by decide +kernel) (pa_cons (pv 3) pa_nil)) pe_int (nomark _))
        (pss_one (ps_for PassesOwn.never rfl (pi_list (pe_ix ix_list (pv 0) (pe_bm0 PySem.F.plainAttrs_list PySem.F.slot_list_pop PySem.F.type_list_pop mt_pop (pv 3)) (fun _ _ => rfl))) (pg_name (i := 4) scHangsOn.nd rfl (.inl rfl))
          (pss_one (ps_if (pt_cmp (pc_dnotin (hu_of hr) (pv 4) (pv 2)))
            (pss_cons (ps_dput (hu_of hr) (pv 2) (pv 4) pe_bl rfl)
              (pss_one (ps_expr (pe_bm PySem.F.plainAttrs_list PySem.F.slot_list_append PySem.F.type_list_append mt_append (pv 3) (pa_cons (pv 4) pa_nil))))) pss_nil)))))
      (pss_one (ps_ret (pe_callB (call_sortedDI rfl) (by rfl) T.sorted (by decide +kernel) (pa_cons (pv 2) pa_nil)))))), ?_⟩
    refine fun d nd => ⟨.int x, rfl, upd_same, [(Sum.inl x, .bl true)], rfl, (by decide : 1 ≤ 15), .int x, rfl, (by decide : 1 ≤ sizeLine), fun u nu => ?_⟩
    have hdu : d ≠ u := ne_of_none upd_same nu
    have nu0 : H u = none := by
      rw [upd_ne hdu.symm, upd_ne hdu.symm] at nu
      exact nu
    refine ⟨fun m σ H3 => ∃ (ms ws : List Int) (y4 : Option V), σ = [some (.ref l), some (.int x), some (.ref d), some (.ref u), y4] ∧ Same H H3 ∧ H3 d = some (.dK (metK ms)) ∧ H3 u = some (.lst (ws.map V.int)) ∧ Hg n ts x (fun _ => False) ms ws m ∧ m ≤ 2 * n + 1,
      ⟨2 * n + 1, [x], [x], none, rfl, same_at (same_at (same_upd nd) nd) nu0, by rw [upd_ne hdu, upd_same] <;> rfl, upd_same, ?_, Nat.le_refl _⟩, ?_⟩
    · refine ⟨List.nodup_cons.mpr ⟨(fun z => by cases z), List.nodup_nil⟩, List.mem_cons_self, fun y hy => by rw [List.mem_singleton.mp hy]; exact .here, fun y hy => hy, fun v hv hnv => absurd hv hnv, ?_⟩
      rw [List.length_singleton]; omega
    rintro m σ H3 ⟨ms, ws, y4, rfl, s3, ed, eu, G, hm⟩
    have hms := G.le hR hx
    refine ⟨.ref u, rfl, u, _, rfl, .inl (sqL eu), _, _, rfl, rfl, _, rfl, ?_⟩
    rw [List.length_map]
    refine ite2 (fun c => ?_) (fun c => ?_)
    · have c := of_decide_eq_true c
      have hw0 : ws ≠ [] := fun e => by rw [e] at c; exact absurd c (by decide)
      obtain ⟨ws', y, rfl⟩ : ∃ ws' y, ws = ws' ++ [y] := ⟨_, _, (List.dropLast_concat_getLast hw0).symm⟩
      have hym := G.sub y (List.mem_append_right _ (List.mem_singleton.mpr rfl))
      obtain ⟨i, ei, hi⟩ := nat_of (hR.reach hx (G.rch y hym))
      obtain ⟨p, hp⟩ : ∃ p, ls[i]? = some p := ⟨_, List.getElem?_eq_getElem (by omega)⟩
      have hpm := List.mem_of_getElem? hp
      have hlu : l ≠ u := ne_of_none el nu0
      have hpu : p.1 ≠ u := ne_of_none (hls p hpm) nu0
      have hpd : p.1 ≠ d := ne_of_none (hls p hpm) nd
      refine ⟨fun σ' H' => ∃ m', m' < m ∧ ∃ (ms ws : List Int) (y4 : Option V), σ' = [some (.ref l), some (.int x), some (.ref d), some (.ref u), y4] ∧ Same H H' ∧ H' d = some (.dK (metK ms)) ∧ H' u = some (.lst (ws.map V.int)) ∧ Hg n ts x (fun _ => False) ms ws m' ∧ m' ≤ 2 * n + 1, fun σ' H' z => z, ?_⟩
      have eu' : H3 u = some (.lst (ws'.map V.int ++ [.int y])) := by rw [eu, List.map_append] <;> rfl
      have s4 : Same H (upd H3 u (.lst (ws'.map V.int))) := same_at s3 nu0
      have Gm := G
      refine ⟨.ref l, rfl, .ref u, rfl, .inl ⟨rfl, _, sqL eu'⟩, u, _, .int y, rfl, rfl, eu', by rw [List.length_append, List.length_singleton, Nat.add_sub_cancel, List.getElem?_concat_length], ?_⟩
      rw [List.dropLast_concat]
      refine ⟨l, _, y, .ref p.1, rfl, rfl, sqL (s4 _ _ el), at_of ei (by rw [List.getElem?_map, hp] <;> rfl), p.1, rfl, ⟨_, sqL (s4 _ _ (hls p hpm))⟩, ?_⟩
      refine for_list (K := K) (a := p.1) (xs := p.2.map V.int) (fun j σ H4 => ∃ (ms ws : List Int) (y4 : Option V), σ = [some (.ref l), some (.int x), some (.ref d), some (.ref u), y4] ∧ Same H H4 ∧ H4 d = some (.dK (metK ms)) ∧ H4 u = some (.lst (ws.map V.int)) ∧ Hg n ts x (fun z => z = y) ms ws (m - 1) ∧ y ∈ ms ∧ ∀ z ∈ p.2.take j, z ∈ ms)
        ⟨ms, ws', y4, rfl, s4, by rw [upd_ne hdu]; exact ed, upd_same, ⟨G.nd, G.mem, G.rch, fun z hz => G.sub z (List.mem_append_left _ hz), fun z hz hn2 hs v a => G.cl z hz (fun e => ?_) (fun e => e) v a, ?_⟩, hym, fun z hz => by cases hz⟩
        (fun j σ H4 _ p4 => ?_) (fun j v σ H4 hv p4 => ?_) (fun σ H4 p4 => ?_)
      · rcases List.mem_append.mp e with e | e
        · exact hn2 e
        · exact hs (List.mem_singleton.mp e)
      · have := G.len
        rw [List.length_append, List.length_singleton] at this
        omega
      · obtain ⟨_, _, _, _, s5, _⟩ := p4
        exact sqL (s5 _ _ (hls p hpm))
      · obtain ⟨ms, ws, y4, rfl, s5, ed, eu, G, hy4, hz⟩ := p4
        rw [List.getElem?_map] at hv
        obtain ⟨z, ez, rfl⟩ := Option.map_eq_some_iff.mp hv
        have haz : Adj ts y z := by
          rw [ei]
          exact ((hadj i p hp).2 z).mp (List.mem_of_getElem? ez)
        refine ⟨.int z, rfl, .ref d, rfl, d, valV (metK ms) (Sum.inl z), rfl, DGet.k (k := Sum.inl z) ed, ?_⟩
        rw [metK_has]
        refine ⟨_, rfl, ite2 (fun c => ?_) (fun c => ?_)⟩
        · have hzm : z ∉ ms := by simpa using c
          have rz : Reach ts x z := .next (G.rch y hy4) haz
          have G2 := G.more hR hx hzm rz
          refine ⟨.ref d, rfl, .int z, rfl, d, _, rfl, DPut.k (k := Sum.inl z) ed ?_, ?_⟩
          · rw [metK, List.length_map, sizeLine_eq]; have := G.le hR hx; omega
          rw [metK_put hzm]
          refine ⟨.ref u, rfl, .inl ⟨rfl, _, sqL (by rw [upd_ne hdu.symm]; exact eu)⟩, .int z, rfl, u, _, _, rfl, rfl, by rw [upd_ne hdu.symm]; exact eu, ?_, ?_⟩
          · rw [List.length_map, sizeLine_eq]
            have h1 := G.len
            have h2 := G.le hR hx
            omega
          · refine ⟨ms ++ [z], ws ++ [z], _, rfl, same_at (same_at s5 nd) nu0, by rw [upd_ne hdu, upd_same], by rw [upd_same, List.map_append] <;> rfl, G2, List.mem_append_left _ hy4, fun v hv => ?_⟩
            rw [take_more ez] at hv
            rcases List.mem_append.mp hv with q | q
            · exact List.mem_append_left _ (hz v q)
            · exact List.mem_append_right _ q
        · have hzm : z ∈ ms := by simpa using c
          refine ⟨ms, ws, _, rfl, s5, ed, eu, G, hy4, fun v hv => ?_⟩
          rw [take_more ez] at hv
          rcases List.mem_append.mp hv with q | q
          · exact hz v q
          · rw [List.mem_singleton.mp q]; exact hzm
      · obtain ⟨ms, ws, y4, rfl, s5, ed, eu, G, hy4, hz⟩ := p4
        rw [List.length_map, List.take_length] at hz
        refine ⟨m - 1, ?_, ms, ws, y4, rfl, s5, ed, eu, ⟨G.nd, G.mem, G.rch, G.sub, fun z hzm hnw _ v a => ?_, G.len⟩, by omega⟩
        · have h1 := Gm.len
          rw [List.length_append, List.length_singleton] at h1
          omega
        · by_cases e : z = y
          · rw [e, ei] at a
            exact hz v (((hadj i p hp).2 v).mpr a)
          · exact G.cl z hzm hnw e v a
    · have hw0 : ws = [] := by
        cases ws with
        | nil => rfl
        | cons a r => exact absurd (by rw [List.length_cons]; exact decide_eq_true (by omega)) c
      subst hw0
      refine ⟨.ref d, rfl, d, metK ms, ms, rfl, .inl ed, metK_keys ms, by omega, fun ys p pm _ np => ?_⟩
      refine q _ p ys (s3.trans (same_upd np)) (s3.free np) upd_same (pm.nodup_iff.mpr G.nd) (fun y => ?_) (by rw [pm.length_eq]; exact hms)
      rw [pm.mem_iff]
      refine ⟨G.rch y, fun r => Reach.keeps r G.mem fun v z hv a => G.cl v hv (fun e => by cases e) (fun e => e) z a⟩
end
end K8

/-! pieces -/
namespace K8
open PySem PySem.Spec PyProof.Rows L2 K8S
theorem valV_merge {k : Key} : ∀ (more kvs : List (Key × V)), (valV (mergeK kvs more) k).isSome = true ↔ (valV kvs k).isSome = true ∨ k ∈ more.map (·.1)
  | [], kvs => by
    show (valV kvs k).isSome = true ↔ _
    simp
  | p :: r, kvs => by
    show (valV (mergeK (putK kvs p.1 p.2) r) k).isSome = true ↔ _
    rw [valV_merge r, valV_put, List.map_cons, List.mem_cons]
    by_cases e : k = p.1
    · rw [if_pos e]
      simp [e]
    · rw [if_neg e]
      simp [e]
theorem paired_map {α β γ : Type} {F : β → γ → Prop} {f : α → β} {g : α → γ} : ∀ {l : List α}, (∀ x ∈ l, F (f x) (g x)) → Paired F (l.map f) (l.map g)
  | [], _ => .nil
  | x :: r, h => .cons (h x List.mem_cons_self) (paired_map fun y hy => h y (List.mem_cons_of_mem _ hy))
theorem valV_mem {k : Key} {kvs : List (Key × V)} : (valV kvs k).isSome = true ↔ k ∈ kvs.map (·.1) := by
  constructor
  · intro q
    cases e : valV kvs k with
    | none => rw [e] at q; cases q
    | some v => exact valV_in e
  · intro q
    cases e : valV kvs k with
    | none => exact absurd q (valV_not e)
    | some v => rfl
/-- a list of pieces -/
structure PiecesAt (H : Hp) (p : Addr) (n : Nat) (ts : List Tie) (fs : List (Addr × List Int)) : Prop where
  lst : H p = some (.lst (refs fs))
  each : ∀ q ∈ fs, H q.1 = some (.lst (q.2.map V.int))
  few : fs.length ≤ n
  small : ∀ q ∈ fs, q.2.length ≤ n
  ok : PiecesOk n ts (vals fs)
theorem PiecesAt.same {H H' : Hp} {p : Addr} {n : Nat} {ts : List Tie} {fs : List (Addr × List Int)} (h : PiecesAt H p n ts fs) (s : Same H H') : PiecesAt H' p n ts fs := ⟨s _ _ h.lst, fun q m => s _ _ (h.each q m), h.few, h.small, h.ok⟩
section
variable {P : Program} {w : World} {K : PySem.W.Frag} {mg : Str → Option Value} {base : Heap}
def spPieces : Sp := fun vs H Q _ => ∃ (W : Addr) (n : Nat) (ts : List (Addr × Tie)), vs = [.ref W] ∧ WebAt H W n ts ∧ WebR n (vals ts) ∧ ts.length ≤ 1000 ∧ n < 64 ∧
  ∀ (H' : Hp) (p : Addr) (fs : List (Addr × List Int)), Same H H' → PiecesAt H' p n (vals ts) fs → Q (.ref p) H'
theorem okPieces {f : Addr} {fd : FuncData} {k : Nat} (F : Fun K "pieces" "pieces" sPieces f fd) (T : Mg mg) (DB : Dn P w K mg base "beside" k spBeside) (DH : Dn P w K mg base "hangs_on" k spHangsOn) : FnOk P w K mg base CX0 (k + 1) f fd ["web"] spPieces := by
  refine F.ok scPieces (fun vs H Q E h => ?_) (fun cdv A outer s H vs Q E hr h => ?_)
  · obtain ⟨W, n, ts, rfl, _⟩ := h
    rfl
  · obtain ⟨W, n, ts, rfl, hW, hR, hz1, hz2, q⟩ := h
    refine ⟨_, pss_cons (ps_set (i := 1) scPieces.nd rfl (.inl rfl) (pe_dn DB hr (by rfl) (pa_cons (pv 0) pa_nil)))
      (pss_cons (ps_set (i := 2) scPieces.nd rfl (.inl rfl) pe_dnewK)
      (pss_cons (ps_set (i := 3) scPieces.nd rfl (.inl rfl) (pe_lst pa_nil))
      (pss_cons (ps_for PassesOwn.never rfl (pi_range1 (by rfl) T.range (pa_cons (pe_ix ix_tup (pv 0) pe_int (fun _ _ => rfl)) pa_nil)) (pg_name (i := 4) scPieces.nd rfl (.inl rfl))
        (pss_one (ps_if (pt_cmp (pc_dnotin (hu_of hr) (pv 4) (pv 2)))
          (pss_cons (ps_expr (pe_bm PySem.F.plainAttrs_list PySem.F.slot_list_append PySem.F.type_list_append mt_append (pv 3) (pa_cons (pe_dn DH hr (by rfl) (pa_cons (pv 1) (pa_cons (pv 4) pa_nil))) pa_nil)))
            (pss_one (ps_expr (pe_bm PySem.F.plainAttrs_dict PySem.F.slot_dict_update PySem.F.type_dict_update mt_updD (pv 2) (pa_cons (pe_callTy (call_dictP rfl) (by rfl) T.dict (by decide +kernel) (pa_cons
              (pe_lc (own := [("other", 5)]) (g := gName 5) (tt := tYes) rfl scPieces.nd (pi_list (pe_ix ix_list (pv 3) (pe_un un_neg pe_int) (fun _ _ => rfl))) (blkOk_by (N := ["web", "near", "met", "found", "place", "other"]) (sc := defScope sPieces) (by decide +kernel))
                (fun _ _ _ _ _ => pg_name (i := 5) scPieces.nd rfl (.inl rfl)) (fun _ _ _ _ _ => pts_nil) (fun _ _ _ _ _ => pe_tup (pa_cons (pv 5) (pa_cons pe_bl pa_nil)))) pa_nil)) pa_nil))))) pss_nil)))
      (pss_one (ps_ret (pv 3)))))), ?_⟩
    refine ⟨.ref W, rfl, W, n, ts, rfl, hW, hR, hz1, by omega, fun H1 l s1 hN0 => ?_⟩
    have hN := hN0 H1 fun _ _ _ e => e
    refine fun d nd => ⟨Nat.zero_le _, fun D nD => ?_⟩
    have hdD : d ≠ D := ne_of_none upd_same nD
    have nD1 : H1 D = none := by rw [upd_ne hdD.symm] at nD; exact nD
    obtain ⟨t0, eW, _⟩ := hW.ex
    have s2 : Same H1 (upd (upd H1 d (.dK [])) D (.lst [])) := same_at (same_upd nd) nD1
    refine ⟨.ref W, rfl, W, _, 0, .int n, rfl, rfl, sqT (s2 _ _ (s1 _ _ eW)), atI_nat (j := 0) rfl, n, rfl, by omega, by omega, ?_⟩
    refine for_range (fun i σ H4 => ∃ (kvs : List (Key × V)) (fs : List (Addr × List Int)) (y4 : Option V), σ = [some (.ref W), some (.ref l), some (.ref d), some (.ref D), y4, none] ∧ Same H1 H4 ∧ H4 d = some (.dK kvs) ∧ H4 D = some (.lst (refs fs)) ∧
        (∀ q ∈ fs, H4 q.1 = some (.lst (q.2.map V.int)) ∧ q.1 ≠ D) ∧ fs.length ≤ i ∧ kvs.length ≤ 64 * i ∧ (∀ q ∈ fs, q.2 ≠ [] ∧ q.2.length ≤ n ∧ ∃ x, (0 ≤ x ∧ x < (n : Int)) ∧ ∀ y, y ∈ q.2 ↔ Reach (vals ts) x y) ∧
        (∀ x : Int, 0 ≤ x → x < i → ∃ q ∈ fs, x ∈ q.2) ∧ ∀ y : Int, (valV kvs (Sum.inl y)).isSome = true ↔ ∃ q ∈ fs, y ∈ q.2)
      ⟨[], [], none, rfl, s2, by rw [upd_ne hdD, upd_same], upd_same, (fun _ z => by cases z), Nat.le_refl _, Nat.le_refl _, (fun _ z => by cases z), (fun x h1 h2 => by exfalso; omega), fun y => ⟨(fun z => by cases z), fun ⟨_, z, _⟩ => by cases z⟩⟩
      (fun i σ H4 hi p4 => ?_) (fun σ H4 p4 => ?_)
    · obtain ⟨kvs, fs, y4, rfl, s4, ed, eD, hf, hfl, hkl, hc, hcov, hk⟩ := p4
      refine ⟨.int (0 + i), rfl, .ref d, rfl, d, valV kvs (Sum.inl (0 + (i : Int))), rfl, DGet.k (k := Sum.inl (0 + (i : Int))) ed, ?_⟩
      refine ⟨_, rfl, ite2 (fun c => ?_) (fun c => ?_)⟩
      · refine ⟨.ref D, rfl, .inl ⟨rfl, _, sqL eD⟩, .ref l, rfl, .int (0 + i), rfl, l, 0 + i, n, vals ts, rfl, hN.same s4, hR, ⟨by omega, by omega⟩, hz2, fun H5 p cs s5 np ep hcn hcm hcl => ?_⟩
        have hpD : p ≠ D := (ne_of_none eD np).symm
        have hpd : p ≠ d := (ne_of_none ed np).symm
        refine ⟨D, _, _, rfl, rfl, s5 _ _ eD, by rw [List.length_map, sizeLine_eq]; omega, ?_⟩
        have ed6 : (upd H5 D (.lst (refs fs ++ [.ref p]))) d = some (.dK kvs) := by rw [upd_ne hdD]; exact s5 _ _ ed
        have s6 : Same H1 (upd H5 D (.lst (refs fs ++ [.ref p]))) := same_at (s4.trans s5) nD1
        have ep6 : (upd H5 D (.lst (refs fs ++ [.ref p]))) p = some (.lst (cs.map V.int)) := by rw [upd_ne hpD]; exact ep
        have eD6 : (upd H5 D (.lst (refs fs ++ [.ref p]))) D = some (.lst (refs fs ++ [.ref p])) := upd_same
        have hf6 : ∀ q ∈ fs, (upd H5 D (.lst (refs fs ++ [.ref p]))) q.1 = some (.lst (q.2.map V.int)) := fun q hq => by
          rw [upd_ne (hf q hq).2]
          exact s5 _ _ (hf q hq).1
        generalize upd H5 D (.lst (refs fs ++ [.ref p])) = H6 at ed6 s6 ep6 eD6 hf6
        refine ⟨.ref d, rfl, .inr (.inr (.inl ⟨rfl, .inl ⟨_, ed6⟩⟩)), .ref D, rfl, 1, rfl, D, _, -1, .ref p, rfl, rfl, sqL eD6, atI_last _ _, p, rfl, ⟨_, sqL ep6⟩, fun D2 nD2 => ?_⟩
        refine lc_it (walk_list (K := K) (a := p) (xs := cs.map V.int)) (LcP H6 D2 fun j out H7 => ∃ rows : List (Addr × Int), out = refs rows ∧ (∀ r ∈ rows, H7 r.1 = some (.tup [.int r.2, .bl true])) ∧ vals rows = cs.take j)
          (LcP.start nD2 ⟨[], rfl, (fun _ z => by cases z), rfl⟩) (fun j H7 _ p7 => ?_) (fun j x H7 H8 hj p7 y => ?_) (fun H7 p7 => ?_)
        · obtain ⟨out, _, s7, _⟩ := p7
          exact s7.seq (sqL ep6)
        · obtain ⟨out, hl, s7, e7, rows, rfl, hr7, hm⟩ := p7
          obtain ⟨rfl, hx⟩ := y
          rw [List.getElem?_map] at hx
          obtain ⟨z, ez, rfl⟩ := Option.map_eq_some_iff.mp hx
          refine ⟨rfl, .int z, rfl, (by show 2 ≤ sizeLine; decide), fun t nt => ?_⟩
          have s8 : Same H8 (upd H8 t (.tup [.int z, .bl true])) := same_upd nt
          have htD : t ≠ D2 := (ne_of_none e7 nt).symm
          refine LcP.push nD2 hj (by rw [List.length_map]; omega) hl (s7.trans s8) (s8 _ _ e7) ⟨rows ++ [(t, z)], (refs_snoc rows (t, z)).symm, fun r hr' => ?_, ?_⟩
          · rcases List.mem_append.mp hr' with q | q
            · have e := s8 _ _ (hr7 r q)
              rw [upd_ne (ne_of (hr7 r q) e7 (by intro z; cases z))]
              exact e
            · rw [List.mem_singleton.mp q]
              show upd _ D2 _ t = _
              rw [upd_ne htD, upd_same]
          · rw [take_more ez, ← hm]
            exact List.map_append
        · obtain ⟨out, hl, s7, e7, rows, rfl, hr7, hm⟩ := p7
          have hm' : vals rows = cs := by
            rw [hm, List.take_of_length_le (by rw [List.length_map]; exact Nat.le_refl _)]
          refine ⟨D2, rows.map (·.1), rows.map fun r => (Sum.inl r.2, V.bl true), rfl, ?_, paired_map fun r hr' => sqT (hr7 r hr'), fun e ne => ?_⟩
          · rw [List.map_map]
            exact sqL e7
          have hrl : rows.length = cs.length := by rw [← hm', List.length_map]
          have hml := length_mergeK (rows.map fun r => ((Sum.inl r.2 : Key), V.bl true)) []
          rw [List.length_nil, List.length_map] at hml
          have hmk : ∀ y : Int, (Sum.inl y : Key) ∈ (mergeK [] (rows.map fun r => ((Sum.inl r.2 : Key), V.bl true))).map (·.1) ↔ y ∈ cs := fun y => by
            rw [← valV_mem, valV_merge, List.map_map, ← hm']
            constructor
            · rintro (z | z)
              · cases z
              · obtain ⟨r, hr', er⟩ := List.mem_map.mp z
                rw [← Sum.inl.inj er]
                exact List.mem_map.mpr ⟨r, hr', rfl⟩
            · intro z
              obtain ⟨r, hr', er⟩ := List.mem_map.mp z
              exact .inr (List.mem_map.mpr ⟨r, hr', by rw [← er] <;> rfl⟩)
          generalize mergeK [] (rows.map fun r => ((Sum.inl r.2 : Key), V.bl true)) = more at hml hmk
          have s9 := same_upd (o := .dK more) ne
          have ed9 := s9 _ _ (s7 _ _ ed6)
          have s10 : Same H1 (upd (upd H7 e (.dK more)) d (.dK (mergeK kvs more))) := same_at (s6.trans (s7.trans s9)) nd
          refine ⟨d, e, kvs, more, rfl, rfl, ed9, upd_same, ne_of_none (s7 _ _ ed6) ne, by rw [sizeLine_eq]; omega, mergeK kvs more, fs ++ [(p, cs)], _, rfl, s10, upd_same, ?_, fun q hq => ?_, by rw [List.length_append, List.length_singleton]; omega, ?_, fun q hq => ?_, fun x h1 h2 => ?_, fun y => ?_⟩
          · rw [upd_ne hdD.symm, refs_snoc]
            exact s9 _ _ (s7 _ _ eD6)
          · rcases List.mem_append.mp hq with z | z
            · have e1 := s9 _ _ (s7 _ _ (hf6 q z))
              refine ⟨?_, (hf q z).2⟩
              rw [upd_ne (ne_of e1 ed9 (by intro z; cases z))]
              exact e1
            · rw [List.mem_singleton.mp z]
              refine ⟨?_, hpD⟩
              rw [upd_ne hpd]
              exact s9 _ _ (s7 _ _ ep6)
          · have := length_mergeK more kvs
            omega
          · rcases List.mem_append.mp hq with z | z
            · exact hc q z
            · rw [List.mem_singleton.mp z]
              refine ⟨fun e0 => ?_, hcl, 0 + (i : Int), ⟨by omega, by omega⟩, hcm⟩
              have : (0 + (i : Int)) ∈ cs := (hcm _).mpr .here
              rw [show cs = [] from e0] at this
              cases this
          · by_cases e1 : x = i
            · exact ⟨(p, cs), List.mem_append_right _ (List.mem_singleton.mpr rfl), (hcm x).mpr (by rw [e1, Int.zero_add]; exact .here)⟩
            · obtain ⟨q, hq, hm⟩ := hcov x h1 (by omega)
              exact ⟨q, List.mem_append_left _ hq, hm⟩
          · rw [valV_merge, hk, hmk]
            constructor
            · rintro (⟨q, hq, hm⟩ | hm)
              · exact ⟨q, List.mem_append_left _ hq, hm⟩
              · exact ⟨(p, cs), List.mem_append_right _ (List.mem_singleton.mpr rfl), hm⟩
            · rintro ⟨q, hq, hm⟩
              rcases List.mem_append.mp hq with z | z
              · exact .inl ⟨q, z, hm⟩
              · rw [List.mem_singleton.mp z] at hm
                exact .inr hm
      · refine ⟨kvs, fs, _, rfl, s4, ed, eD, hf, by omega, by omega, hc, fun x h1 h2 => ?_, hk⟩
        by_cases e : x = i
        · have hs : (valV kvs (Sum.inl (0 + (i : Int)))).isSome = true := by
            cases q : (valV kvs (Sum.inl (0 + (i : Int)))).isSome with
            | true => rfl
            | false => rw [q] at c; exact absurd rfl c
          rw [Int.zero_add] at hs
          rw [e]
          exact (hk i).mp hs
        · exact hcov x h1 (by omega)
    · obtain ⟨kvs, fs, y4, rfl, s4, ed, eD, hf, hfl, hkl, hc, hcov, hk⟩ := p4
      have hv : ∀ P, P ∈ vals fs ↔ ∃ q ∈ fs, q.2 = P := fun P => List.mem_map
      refine ⟨.ref D, rfl, q H4 D fs (s1.trans s4) ⟨eD, fun q hq => (hf q hq).1, hfl, fun q hq => (hc q hq).2.1, fun P hP => ?_, fun P hP => ?_, fun x h1 h2 => ?_⟩⟩
      · obtain ⟨q, hq, rfl⟩ := (hv P).mp hP
        exact (hc q hq).1
      · obtain ⟨q, hq, rfl⟩ := (hv P).mp hP
        exact (hc q hq).2.2
      · obtain ⟨q, hq, hm⟩ := hcov x h1 h2
        exact ⟨q.2, (hv _).mpr ⟨q, hq, rfl⟩, hm⟩
end
end K8

/-! merged -/
namespace K8
open PySem PySem.Spec PyProof.Rows L2 K8S
theorem sum_perm {α : Type} {l m : List α} (h : l.Perm m) (f : α → Int) : (l.map f).sum = (m.map f).sum := by
  induction h with
  | nil => rfl
  | cons x _ ih => rw [List.map_cons, List.map_cons, List.sum_cons, List.sum_cons, ih]
  | swap x y l => rw [List.map_cons, List.map_cons, List.map_cons, List.map_cons, List.sum_cons, List.sum_cons, List.sum_cons, List.sum_cons]; omega
  | trans _ _ a b => exact a.trans b
theorem sum_snoc (l : List Int) (x : Int) : (l ++ [x]).sum = l.sum + x := by
  induction l with
  | nil => rw [List.nil_append, List.sum_cons, List.sum_nil]; omega
  | cons a r ih => rw [List.cons_append, List.sum_cons, List.sum_cons, ih]; omega
theorem sum_set {α : Type} [DecidableEq α] {p : α} {n : Int} {f g : α → Int} (hp : g p = f p + n) (ho : ∀ x, x ≠ p → g x = f x) : ∀ {l : List α}, l.Nodup → (l.map g).sum = (l.map f).sum + if p ∈ l then n else 0
  | [], _ => by simp
  | x :: r, nd => by
    have h := List.nodup_cons.mp nd
    rw [List.map_cons, List.map_cons, List.sum_cons, List.sum_cons, sum_set hp ho h.2]
    by_cases e : x = p
    · subst e
      rw [if_neg h.1, if_pos List.mem_cons_self, hp]; omega
    · rw [ho x e]
      by_cases m : p ∈ r
      · rw [if_pos m, if_pos (List.mem_cons_of_mem _ m)]; omega
      · rw [if_neg m, if_neg fun z => by rcases List.mem_cons.mp z with z | z; exact e z.symm; exact m z]
        omega
theorem keys_put {κ : Type} [DecidableEq κ] {kvs : List (κ × V)} {k : κ} {v : V} : (putK kvs k v).map (·.1) = if k ∈ kvs.map (·.1) then kvs.map (·.1) else kvs.map (·.1) ++ [k] := by
  unfold putK
  have e : ((kvs.any fun kv => decide (kv.1 = k)) = true) ↔ k ∈ kvs.map (·.1) := by
    rw [List.any_eq_true, List.mem_map]
    exact ⟨fun ⟨x, h1, h2⟩ => ⟨x, h1, of_decide_eq_true h2⟩, fun ⟨x, h1, h2⟩ => ⟨x, h1, decide_eq_true h2⟩⟩
  by_cases c : k ∈ kvs.map (·.1)
  · rw [if_pos (e.mpr c), if_pos c, List.map_map]
    refine List.map_congr_left fun x _ => ?_
    show (if x.1 = k then (x.1, v) else x).1 = x.1
    split <;> rfl
  · rw [if_neg fun z => c (e.mp z), if_neg c, List.map_append] <;> rfl
/-- what stands at a pair -/
def gk (kvs : List (List Key × V)) (p : Int × Int) : Int := match valV kvs (ky p) with
  | some (.int n) => n
  | _ => 0
structure Wts (kvs : List (List Key × V)) (ks : List (Int × Int)) : Prop where
  nd : ks.Nodup
  keys : kvs.map (·.1) = ks.map ky
  vok : ∀ p ∈ ks, valV kvs (ky p) = some (.int (gk kvs p))
theorem Wts.nil : Wts [] [] := ⟨List.nodup_nil, rfl, fun _ z => by cases z⟩
theorem Wts.mem {kvs : List (List Key × V)} {ks : List (Int × Int)} (h : Wts kvs ks) {p : Int × Int} : ky p ∈ kvs.map (·.1) ↔ p ∈ ks := by
  rw [h.keys, List.mem_map]
  exact ⟨fun ⟨q, hq, e⟩ => by rw [← ky_inj e]; exact hq, fun hq => ⟨p, hq, rfl⟩⟩
theorem Wts.get {kvs : List (List Key × V)} {ks : List (Int × Int)} (h : Wts kvs ks) (p : Int × Int) : (valV kvs (ky p)).getD (.int 0) = .int (gk kvs p) ∧ (p ∉ ks → gk kvs p = 0) := by
  by_cases c : p ∈ ks
  · rw [h.vok p c]
    exact ⟨rfl, fun z => absurd c z⟩
  · have e : valV kvs (ky p) = none := by
      cases q : valV kvs (ky p) with
      | none => rfl
      | some v => exact absurd (h.mem.mp (valV_in q)) c
    have e2 : gk kvs p = 0 := by unfold gk; rw [e]
    rw [e, e2]
    exact ⟨rfl, fun _ => rfl⟩
theorem Wts.len {kvs : List (List Key × V)} {ks : List (Int × Int)} (h : Wts kvs ks) : kvs.length = ks.length := by
  have := congrArg List.length h.keys
  rwa [List.length_map, List.length_map] at this
theorem gk_put {kvs : List (List Key × V)} {p q : Int × Int} {m : Int} : gk (putK kvs (ky p) (.int m)) q = if q = p then m else gk kvs q := by
  unfold gk
  rw [valV_put]
  by_cases e : q = p
  · rw [if_pos e, if_pos (by rw [e])]
  · rw [if_neg e, if_neg fun z => e (ky_inj z)]
/-- a dict of pairs and ints: the new weight added, or any int put -/
theorem Wts.set {kvs : List (List Key × V)} {ks : List (Int × Int)} (h : Wts kvs ks) (p : Int × Int) (m : Int) :
    ∃ ks', Wts (putK kvs (ky p) (.int m)) ks' ∧ ks'.length ≤ ks.length + 1 ∧ (∀ q, q ∈ ks' ↔ q ∈ ks ∨ q = p) ∧ (ks'.map (gk (putK kvs (ky p) (.int m)))).sum = (ks.map (gk kvs)).sum + (m - gk kvs p) := by
  have h1 : ∀ q, gk (putK kvs (ky p) (.int m)) q = if q = p then m else gk kvs q := fun q => gk_put
  have hp : gk (putK kvs (ky p) (.int m)) p = gk kvs p + (m - gk kvs p) := by rw [h1, if_pos rfl]; omega
  have ho : ∀ x, x ≠ p → gk (putK kvs (ky p) (.int m)) x = gk kvs x := fun x e => by rw [h1, if_neg e]
  have hi : ∀ q, (q ∈ ks ∨ q = p) → valV (putK kvs (ky p) (.int m)) (ky q) = some (.int (gk (putK kvs (ky p) (.int m)) q)) := fun q hq => by
    rw [valV_put, h1]
    by_cases e : q = p
    · rw [if_pos e, if_pos (by rw [e])]
    · rw [if_neg e, if_neg fun z => e (ky_inj z)]
      exact h.vok q (hq.resolve_right e)
  by_cases c : p ∈ ks
  · refine ⟨ks, ⟨h.nd, ?_, fun q hq => hi q (.inl hq)⟩, Nat.le_succ _, fun q => ⟨.inl, fun z => z.elim id fun e => by rw [e]; exact c⟩, ?_⟩
    · rw [keys_put, if_pos (h.mem.mpr c), h.keys]
    · rw [sum_set hp ho h.nd, if_pos c]
  · have hn : (ks ++ [p]).Nodup := nd_snoc h.nd c
    refine ⟨ks ++ [p], ⟨hn, ?_, fun q hq => hi q (by simpa using hq)⟩, by rw [List.length_append] <;> exact Nat.le_refl _, fun q => by simp, ?_⟩
    · rw [keys_put, if_neg fun z => c (h.mem.mp z), h.keys, List.map_append] <;> rfl
    · rw [List.map_append, List.map_singleton, sum_snoc, sum_set hp ho h.nd, if_neg c, hp, (h.get p).2 c]
      omega
def decP : List Int → Int × Int
  | [a, b] => (a, b)
  | _ => (0, 0)
/-- a web of which only the weights' sum is known -/
def SumAt (H : Hp) (p : Addr) (c : Int) : Prop := ∃ (m : Int) (T : Addr) (rs : List (Addr × Tie)), H p = some (.tup [.int m, .ref T]) ∧ H T = some (.tup (refs rs)) ∧ (∀ t ∈ rs, H t.1 = some (.tup (tieV t.2))) ∧ rs.length ≤ 1000 ∧ ((vals rs).map (·.2.2)).sum = c
section
variable {P : Program} {w : World} {K : PySem.W.Frag} {mg : Str → Option Value} {base : Heap}
def spMerged : Sp := fun vs H Q _ => ∃ (W N : Addr) (n : Nat) (ts : List (Addr × Tie)) (ns : List Int) (o : Int → Int), vs = [.ref W, .ref N] ∧ WebAt H W n ts ∧ WebR n (vals ts) ∧ ts.length ≤ 1000 ∧ H N = some (.tup (ns.map V.int)) ∧ ns.length = n ∧ 0 < n ∧
  (∀ i : Nat, i < n → ns[i]? = some (o i)) ∧ ∀ (H' : Hp) (p : Addr), Same H H' → SumAt H' p (((vals ts).filter fun t => !decide (o t.1 = o t.2.1)).map (·.2.2)).sum → Q (.ref p) H'
theorem okMerged {f : Addr} {fd : FuncData} {k : Nat} (F : Fun K "merged" "merged" sMerged f fd) (T : Mg mg) : FnOk P w K mg base CX0 (k + 1) f fd ["web", "names"] spMerged := by
  refine F.ok scMerged (fun vs H Q E h => ?_) (fun cdv A outer s H vs Q E hr h => ?_)
  · obtain ⟨W, N, n, ts, ns, o, rfl, _⟩ := h
    rfl
  · obtain ⟨W, N, n, ts, ns, o, rfl, hW, hR, hz1, hN, hnn, hn0, ho, q⟩ := h
    obtain ⟨t0, eW, eT⟩ := hW.ex
    refine ⟨_, pss_cons (ps_set (i := 2) scMerged.nd rfl (.inr rfl) pe_dnewT)
      (pss_cons (ps_for PassesOwn.never rfl (pi_tup (pe_ix ix_tup (pv 0) pe_int (fun _ _ => rfl))) (pg_tup rfl (pgs_cons (pg_name (i := 3) scMerged.nd rfl (.inl rfl)) (pgs_cons (pg_name (i := 4) scMerged.nd rfl (.inl rfl)) (pgs_cons (pg_name (i := 5) scMerged.nd rfl (.inl rfl)) pgs_nil))))
        (pss_cons (ps_set (i := 6) scMerged.nd rfl (.inl rfl) (pe_tup (pa_cons (pe_callB (call_min2 rfl) (by rfl) T.min (by decide +kernel) (pa_cons (pe_ix ix_tup (pv 1) (pv 3) (fun _ _ => rfl)) (pa_cons (pe_ix ix_tup (pv 1) (pv 4) (fun _ _ => rfl)) pa_nil)))
            (pa_cons (pe_callB (call_max2 rfl) (by rfl) T.max (by decide +kernel) (pa_cons (pe_ix ix_tup (pv 1) (pv 3) (fun _ _ => rfl)) (pa_cons (pe_ix ix_tup (pv 1) (pv 4) (fun _ _ => rfl)) pa_nil))) pa_nil))))
          (pss_one (ps_if (pt_cmpR op_lt (pe_ix ix_tup (pv 6) pe_int (fun _ _ => rfl)) (pe_ix ix_tup (pv 6) pe_int (fun _ _ => rfl)) (nomark _))
            (pss_one (ps_dput (hu_of hr) (pv 2) (pv 6) (pe_op op_add (pe_dget2 (hu_of hr) (pv 2) (pv 6) pe_int ⟨rfl, rfl, rfl, rfl⟩) (pv 5)) rfl)) pss_nil))))
      (pss_one (ps_ret (pe_tup (pa_cons (pe_op op_add (pe_callB (cr_maxT rfl) (by rfl) T.max (by decide +kernel) (pa_cons (pv 1) pa_nil)) pe_int) (pa_cons (pe_callTy call_tuple_of (by rfl) T.tuple (by decide +kernel) (pa_cons
        (pe_lc (own := [("pair", 6)]) (g := gName 6) (tt := tYes) rfl scMerged.nd (pi_list (pe_callB (cr_sortDT rfl) (by rfl) T.sorted (by decide +kernel) (pa_cons (pv 2) pa_nil))) (blkOk_by (N := ["web", "names", "weights", "a", "b", "weight", "pair"]) (sc := defScope sMerged) (by decide +kernel))
          (fun _ _ _ _ _ => pg_name (i := 6) scMerged.nd rfl (.inl rfl)) (fun _ _ _ _ _ => pts_nil) (fun _ _ _ _ _ => pe_op (r := rCatT K) op_catT (pv 6) (pe_tup (pa_cons (pe_dget (hu_of hr) (pv 2) (pv 6) (fun _ _ => rfl)) pa_nil)))) pa_nil)) pa_nil)))))), ?_⟩
    refine fun d nd => ⟨.ref W, rfl, W, _, 1, .ref t0, rfl, rfl, sqT (same_upd nd _ _ eW), atI_nat (j := 1) rfl, t0, rfl, ⟨_, sqT (same_upd nd _ _ eT)⟩, ?_⟩
    refine for_tup (K := K) (a := t0) (xs := refs ts) (fun i σ H4 => ∃ (y3 y4 y5 y6 : Option V) (kvs : List (List Key × V)) (ks : List (Int × Int)), σ = [some (.ref W), some (.ref N), some (.ref d), y3, y4, y5, y6] ∧ Same H H4 ∧ H4 d = some (.dT kvs) ∧ Wts kvs ks ∧ ks.length ≤ i ∧
        (ks.map (gk kvs)).sum = ((((vals ts).take i).filter fun t => !decide (o t.1 = o t.2.1)).map (·.2.2)).sum)
      ⟨none, none, none, none, [], [], rfl, same_upd nd, upd_same, .nil, Nat.le_refl _, rfl⟩ (fun i σ H4 _ p => ?_) (fun i x σ H4 hx p => ?_) (fun σ H4 p => ?_)
    · obtain ⟨_, _, _, _, _, _, _, s4, _⟩ := p
      exact sqT (s4 _ _ eT)
    · obtain ⟨y3, y4, y5, y6, kvs, ks, rfl, s4, ed, hk, hkl, hs⟩ := p
      obtain ⟨t, ht, rfl⟩ := refs_at hx
      have htm := List.mem_of_getElem? ht
      have hv : (vals ts)[i]? = some t.2 := by rw [List.getElem?_map, ht] <;> rfl
      have hil : i < ts.length := (List.getElem?_eq_some_iff.mp ht).1
      obtain ⟨ha, hb, _⟩ := hR t.2 (List.mem_of_getElem? hv)
      obtain ⟨a, ea, ha⟩ := nat_of ha
      obtain ⟨b, eb, hb⟩ := nat_of hb
      have eN := s4 _ _ hN
      have ga : atI (ns.map V.int) t.2.1 = some (.int (o t.2.1)) := by
        rw [ea]
        exact atI_nat (by rw [List.getElem?_map, ho a ha] <;> rfl)
      have gb : atI (ns.map V.int) t.2.2.1 = some (.int (o t.2.2.1)) := by
        rw [eb]
        exact atI_nat (by rw [List.getElem?_map, ho b hb] <;> rfl)
      refine ⟨t.1, tieV t.2, rfl, sqT (s4 _ _ (hW.each t htm)), rfl, _, _, rfl, _, _, rfl, _, _, rfl, rfl, ?_⟩
      refine ⟨.ref N, rfl, .int t.2.1, rfl, N, _, t.2.1, .int (o t.2.1), rfl, rfl, sqT eN, ga, .ref N, rfl, .int t.2.2.1, rfl, N, _, t.2.2.1, .int (o t.2.2.1), rfl, rfl, sqT eN, gb, _, _, rfl, ?_⟩
      refine ⟨.ref N, rfl, .int t.2.1, rfl, N, _, t.2.1, .int (o t.2.1), rfl, rfl, sqT eN, ga, .ref N, rfl, .int t.2.2.1, rfl, N, _, t.2.2.1, .int (o t.2.2.1), rfl, rfl, sqT eN, gb, _, _, rfl, ?_⟩
      have hlt : ((if o t.2.2.1 < o t.2.1 then o t.2.2.1 else o t.2.1) < (if o t.2.2.1 > o t.2.1 then o t.2.2.1 else o t.2.1)) ↔ ¬ o t.2.1 = o t.2.2.1 := by
        split <;> split <;> omega
      generalize (if o t.2.2.1 < o t.2.1 then o t.2.2.1 else o t.2.1) = mn at hlt
      generalize (if o t.2.2.1 > o t.2.1 then o t.2.2.1 else o t.2.1) = mx at hlt
      refine ⟨(by show 2 ≤ sizeLine; decide), fun u nu => ?_⟩
      have s5 : Same H4 (upd H4 u (.tup [.int mn, .int mx])) := same_upd nu
      have hdu := ne_of_none ed nu
      refine ⟨.ref u, rfl, u, _, 0, .int mn, rfl, rfl, sqT upd_same, atI_nat (j := 0) rfl, .ref u, rfl, u, _, 1, .int mx, rfl, rfl, sqT upd_same, atI_nat (j := 1) rfl, _, _, rfl, rfl, _, rfl, ite2 (fun c => ?_) (fun c => ?_)⟩
      · have c := of_decide_eq_true c
        obtain ⟨ks', hk', hkl', _, hs'⟩ := hk.set (mn, mx) (gk kvs (mn, mx) + t.2.2.2)
        refine ⟨.ref d, rfl, d, rfl, .inr ⟨kvs, .inl (s5 _ _ ed)⟩, .ref u, rfl, valV kvs (ky (mn, mx)), DGet.t (s5 _ _ ed) upd_same, .int t.2.2.2, rfl, gk kvs (mn, mx), t.2.2.2, (hk.get (mn, mx)).1, rfl, ?_⟩
        refine ⟨.ref d, rfl, .ref u, rfl, d, _, rfl, DPut.t (k := ky (mn, mx)) (s5 _ _ ed) upd_same (by rw [hk.len, sizeLine_eq]; omega), _, _, _, _, putK kvs (ky (mn, mx)) (.int (gk kvs (mn, mx) + t.2.2.2)), ks', rfl, same_at (s4.trans s5) nd, upd_same, hk', by omega, ?_⟩
        rw [hs', hs, take_more hv, filter_more, if_pos (by simpa using hlt.mp c), List.map_append, List.map_singleton, sum_snoc]
        omega
      · have c : ¬ mn < mx := fun z => c (decide_eq_true z)
        refine ⟨_, _, _, _, kvs, ks, rfl, s4.trans s5, s5 _ _ ed, hk, by omega, ?_⟩
        rw [hs, take_more hv, filter_more, if_neg (fun z => c (hlt.mpr (by simpa using z)))]
    · obtain ⟨y3, y4, y5, y6, kvs, ks, rfl, s4, ed, hk, hkl, hs⟩ := p
      have hw : (vals ts).take (refs ts).length = vals ts := List.take_of_length_le (by rw [List.length_map, List.length_map]; exact Nat.le_refl _)
      rw [hw] at hs
      rw [List.length_map] at hkl
      refine ⟨.ref N, rfl, N, ns, rfl, sqT (s4 _ _ hN), by omega, fun m => ⟨m, 1, rfl, rfl, ?_⟩⟩
      refine ⟨.ref d, rfl, d, kvs, ks.map fun p => [p.1, p.2], rfl, .inl ed, by rw [hk.keys, List.map_map] <;> rfl, ?_, fun p bs np pm hb => ?_⟩
      · intro l hl
        obtain ⟨p, _, rfl⟩ := List.mem_map.mp hl
        intro z
        cases z
      have s5 : Same H4 (upd H4 p (.lst (refs bs))) := same_upd np
      have ep5 : (upd H4 p (.lst (refs bs))) p = some (.lst (refs bs)) := upd_same
      refine ⟨p, rfl, ⟨refs bs, sqL ep5⟩, ?_⟩
      show ∀ D, (upd H4 p (.lst (refs bs))) D = none → _
      have hb5 : ∀ b ∈ bs, (upd H4 p (.lst (refs bs))) b.1 = some (.tup (b.2.map V.int)) := fun b m => s5 _ _ (hb b m)
      have ed5 := s5 _ _ ed
      have s5' := s4.trans s5
      have hbl : bs.length = ks.length := by
        have := pm.length_eq
        rwa [List.length_map, List.length_map] at this
      generalize upd H4 p (.lst (refs bs)) = H5 at s5' ep5 hb5 ed5
      refine fun D nD => ?_
      refine lc_it (walk_list (K := K) (a := p) (xs := refs bs)) (LcP H5 D fun j out H6 => ∃ rows : List (Addr × Tie), out = refs rows ∧ (∀ r ∈ rows, H6 r.1 = some (.tup (tieV r.2))) ∧ (rows.map fun r => [r.2.1, r.2.2.1]) = (bs.take j).map (·.2) ∧ ∀ r ∈ rows, r.2.2.2 = gk kvs (prOf r.2))
        (LcP.start nD ⟨[], rfl, (fun _ z => by cases z), rfl, fun _ z => by cases z⟩) (fun j H6 _ p6 => ?_) (fun j x H6 H7 hj p6 y => ?_) (fun H6 p6 => ?_)
      · obtain ⟨out, _, s6, _⟩ := p6
        exact s6.seq (sqL ep5)
      · obtain ⟨out, hl, s6, e6, rows, rfl, hr6, hm, hg⟩ := p6
        obtain ⟨rfl, hx⟩ := y
        obtain ⟨b, hbj, rfl⟩ := refs_at hx
        have hbm := List.mem_of_getElem? hbj
        obtain ⟨pr, hpr, epr⟩ := List.mem_map.mp (pm.mem_iff.mp (List.mem_map.mpr ⟨b, hbm, rfl⟩))
        have eb6 : H7 b.1 = some (.tup [.int pr.1, .int pr.2]) := by
          have e1 := s6 _ _ (hb5 b hbm)
          rw [← epr] at e1
          exact e1
        refine ⟨rfl, .ref b.1, rfl, .ref d, rfl, .ref b.1, rfl, d, .int (gk kvs pr), rfl, ?_, (by show 1 ≤ sizeLine; decide), fun u nu => ?_⟩
        · rw [← hk.vok pr hpr]
          exact DGet.t (k := ky pr) (s6 _ _ ed5) eb6
        have s7 : Same H7 (upd H7 u (.tup [.int (gk kvs pr)])) := same_upd nu
        refine ⟨b.1, u, [.int pr.1, .int pr.2], [.int (gk kvs pr)], rfl, rfl, sqT (s7 _ _ eb6), sqT upd_same, (fun z => by cases z), (by show 3 ≤ sizeLine; decide), (fun z => by cases z), fun _ t nt => ?_⟩
        have s8 : Same (upd H7 u (.tup [.int (gk kvs pr)])) (upd (upd H7 u (.tup [.int (gk kvs pr)])) t (.tup (tieV (pr.1, pr.2, gk kvs pr)))) := same_upd nt
        have s78 := s7.trans s8
        have htD : t ≠ D := (ne_of_none (s7 _ _ e6) nt).symm
        refine LcP.push nD hj (by rw [List.length_map]; omega) hl (s6.trans s78) (s78 _ _ e6) ⟨rows ++ [(t, pr.1, pr.2, gk kvs pr)], (refs_snoc rows (t, pr.1, pr.2, gk kvs pr)).symm, fun r hr' => ?_, ?_, fun r hr' => ?_⟩
        · rcases List.mem_append.mp hr' with q | q
          · have e := s78 _ _ (hr6 r q)
            rw [upd_ne (ne_of (hr6 r q) e6 (by intro z; cases z))]
            exact e
          · rw [List.mem_singleton.mp q]
            show upd _ D _ t = _
            rw [upd_ne htD, upd_same] <;> rfl
        · rw [take_more hbj, List.map_append, List.map_append, hm, List.map_singleton, List.map_singleton, ← epr]
        · rcases List.mem_append.mp hr' with q | q
          · exact hg r q
          · rw [List.mem_singleton.mp q] <;> rfl
      · obtain ⟨out, hl, s6, e6, rows, rfl, hr6, hm, hg⟩ := p6
        have hw2 : bs.take (refs bs).length = bs := List.take_of_length_le (by rw [List.length_map]; exact Nat.le_refl _)
        rw [hw2] at hm
        have hrl : rows.length = bs.length := by
          have := congrArg List.length hm
          rwa [List.length_map, List.length_map] at this
        refine ⟨D, refs rows, rfl, .inl ⟨sqL e6, fun T' nT' => ⟨(by show 2 ≤ sizeLine; decide), fun pp npp => ?_⟩⟩⟩
        have s7 : Same H6 (upd H6 T' (.tup (refs rows))) := same_upd nT'
        have s8 := same_upd (o := .tup [.int (m + 1), .ref T']) npp
        have s78 := s7.trans s8
        refine q _ pp (s5'.trans (s6.trans s78)) ⟨m + 1, T', rows, upd_same, s8 _ _ upd_same, fun r hr' => s78 _ _ (hr6 r hr'), by omega, ?_⟩
        rw [← hs]
        have e1 : ((vals rows).map (·.2.2)).sum = ((rows.map fun r => prOf r.2).map (gk kvs)).sum := by
          rw [List.map_map, List.map_map]
          congr 1
          exact List.map_congr_left hg
        rw [e1]
        refine sum_perm ?_ _
        have p1 : (rows.map fun r => [r.2.1, r.2.2.1]).Perm (ks.map fun p => [p.1, p.2]) := by rw [hm]; exact pm
        have p2 := p1.map decP
        rw [List.map_map, List.map_map] at p2
        have e2 : ks.map (decP ∘ fun p => [p.1, p.2]) = ks := by
          have : (decP ∘ fun p : Int × Int => [p.1, p.2]) = id := funext fun p => rfl
          rw [this, List.map_id]
        rw [e2] at p2
        exact p2
end
end K8

/-! posts_in, is_parting, cut_by, by_weight -/
namespace K8
open PySem PySem.Spec PyProof.Rows L2 K8S
theorem inV_ints (x : Int) : ∀ l : List Int, inV (.int x) (l.map V.int) = decide (x ∈ l)
  | [] => rfl
  | y :: r => by
    have ih := inV_ints x r
    unfold inV at ih ⊢
    rw [List.map_cons, List.any_cons, ih]
    show ((y == x) || decide (x ∈ r)) = decide (x ∈ y :: r)
    rw [Bool.eq_iff_iff, Bool.or_eq_true, beq_iff_eq, decide_eq_true_eq, decide_eq_true_eq, List.mem_cons]
    exact ⟨fun z => z.elim (fun e => .inl e.symm) .inr, fun z => z.elim (fun e => .inl e.symm) .inr⟩
theorem flat_ints : ∀ l : List Int, (l.map V.int).all flatV = true
  | [] => rfl
  | y :: r => by
    rw [List.map_cons, List.all_cons, flat_ints r] <;> rfl
theorem ints_at {l : List Int} {i : Nat} {x : V} (h : (l.map V.int)[i]? = some x) : ∃ z, l[i]? = some z ∧ x = .int z := by
  rw [List.getElem?_map] at h
  obtain ⟨z, e, rfl⟩ := Option.map_eq_some_iff.mp h
  exact ⟨z, e, rfl⟩
section
variable {P : Program} {w : World} {K : PySem.W.Frag} {mg : Str → Option Value} {base : Heap}
def spPostsIn : Sp := fun vs H Q _ => ∃ (a b : Addr) (posts pc : List Int), vs = [.ref a, .ref b] ∧ H a = some (.lst (posts.map V.int)) ∧ H b = some (.lst (pc.map V.int)) ∧ posts.length ≤ 1000 ∧
  ∀ (H' : Hp) (p : Addr), Same H H' → H' p = some (.lst ((postsIn posts pc).map V.int)) → Q (.ref p) H'
theorem okPostsIn {f : Addr} {fd : FuncData} {k : Nat} (F : Fun K "posts_in" "posts_in" sPostsIn f fd) (T : Mg mg) : FnOk P w K mg base CX0 (k + 1) f fd ["posts", "piece"] spPostsIn := by
  refine F.ok scPostsIn (fun vs H Q E h => ?_) (fun cdv A outer s H vs Q E hr h => ?_)
  · obtain ⟨a, b, posts, pc, rfl, _⟩ := h
    rfl
  · obtain ⟨a, b, posts, pc, rfl, ea, eb, hz, q⟩ := h
    refine ⟨_, pss_one (ps_ret (pe_lc (own := [("post", 2)]) (g := gName 2) rfl scPostsIn.nd (pi_list (pv 0)) (blkOk_by (N := ["posts", "piece", "post"]) (sc := defScope sPostsIn) (by decide +kernel))
      (fun _ _ _ _ _ => pg_name (i := 2) scPostsIn.nd rfl (Or.inl rfl)) (fun _ _ _ _ _ => pts_one (pt_cmpR (r := rIn K false) op_in_seq (pv 2) (pv 1) (by with_unfolding_all rfl))) (fun _ _ _ _ _ => pv 2))), ?_⟩
    refine ⟨.ref a, rfl, a, rfl, ⟨_, sqL ea⟩, fun D nD => ?_⟩
    refine lc_it (walk_list (K := K) (a := a) (xs := posts.map V.int)) (LcP H D fun i out H3 => out = (postsIn (posts.take i) pc).map V.int)
      (LcP.start nD rfl) (fun i H3 _ p => ?_) (fun i x H3 H4 hi p y => ?_) (fun H3 p => ?_)
    · obtain ⟨out, _, s3, _⟩ := p
      exact s3.seq (sqL ea)
    · obtain ⟨out, hl, s3, e3, eo⟩ := p
      obtain ⟨rfl, hx⟩ := y
      obtain ⟨z, ez, rfl⟩ := ints_at hx
      refine ⟨rfl, .int z, rfl, .ref b, rfl, b, pc.map V.int, rfl, .inl (sqL (s3 _ _ eb)), rfl, flat_ints pc, ?_⟩
      rw [inV_ints, if_neg Bool.false_ne_true]
      refine ⟨_, rfl, ite2 (fun c => ?_) (fun c => ?_)⟩
      · refine ⟨.int z, rfl, ?_⟩
        refine LcP.push nD hi (by rw [List.length_map]; omega) hl s3 e3 ?_
        rw [postsIn, take_more ez, filter_more, if_pos c, List.map_append, eo] <;> rfl
      · refine LcP.skip hl s3 e3 ?_
        rw [postsIn, take_more ez, filter_more, if_neg c, eo] <;> rfl
    · obtain ⟨out, hl, s3, e3, eo⟩ := p
      rw [List.take_of_length_le (by rw [List.length_map]; exact Nat.le_refl _)] at eo
      rw [eo] at e3
      exact q H3 D s3 e3

def spIsParting : Sp := fun vs H Q _ => ∃ (W po c : Addr) (n : Nat) (ts : List (Addr × Tie)) (posts : List Int) (ps : List (Addr × (Int × Int))), vs = [.ref W, .ref po, .ref c] ∧ WebAt H W n ts ∧ WebR n (vals ts) ∧ ts.length ≤ 1000 ∧ n < 64 ∧
  H po = some (.lst (posts.map V.int)) ∧ posts.length ≤ 1000 ∧ posts.Nodup ∧ (∀ p ∈ posts, 0 ≤ p ∧ p < (n : Int)) ∧ CutAt H c ps ∧ ps.length ≤ 1000 ∧
  ∀ (H' : Hp) (b : Bool), Same H H' → (b = true ↔ Parting (kept (vals ts) (vals ps)) posts) → Q (.bl b) H'
theorem okIsParting {f : Addr} {fd : FuncData} {k : Nat} (F : Fun K "is_parting" "is_parting" sIsParting f fd) (T : Mg mg) (DW : Dn P w K mg base "without" k spWithout) (DI : Dn P w K mg base "pieces" k spPieces) (DO : Dn P w K mg base "posts_in" k spPostsIn) :
    FnOk P w K mg base CX0 (k + 1) f fd ["web", "posts", "cut"] spIsParting := by
  refine F.ok scIsParting (fun vs H Q E h => ?_) (fun cdv A outer s H vs Q E hr h => ?_)
  · obtain ⟨W, po, c, n, ts, posts, ps, rfl, _⟩ := h
    rfl
  · obtain ⟨W, po, c, n, ts, posts, ps, rfl, hW, hR, hz1, hn, hpo, hz2, hnd, hpr, hC, hz3, q⟩ := h
    refine ⟨_, pss_one (ps_ret (pe_callB (cr_all rfl) (by rfl) T.all (by decide +kernel) (pa_cons (pe_lc (own := [("piece", 3)]) (g := gName 3) (tt := tYes) rfl scIsParting.nd
      (pi_list (pe_dn DI hr (by rfl) (pa_cons (pe_dn DW hr (by rfl) (pa_cons (pv 0) (pa_cons (pv 2) pa_nil))) pa_nil))) (blkOk_by (N := ["web", "posts", "cut", "piece"]) (sc := defScope sIsParting) (by decide +kernel))
      (fun _ _ _ _ _ => pg_name (i := 3) scIsParting.nd rfl (Or.inl rfl)) (fun _ _ _ _ _ => pts_nil)
      (fun _ _ _ _ _ => pe_cmpR op_lt (pe_callB (r := rLenS K) cr_lenS (by rfl) T.len (by decide +kernel) (pa_cons (pe_dn DO hr (by rfl) (pa_cons (pv 1) (pa_cons (pv 3) pa_nil))) pa_nil)) pe_int (nomark _))) pa_nil))), ?_⟩
    refine ⟨.ref W, rfl, .ref c, rfl, W, c, n, ts, ps, rfl, hW, hC, hz1, hz3, fun H1 W2 s1 hW2 => ?_⟩
    have hR2 : WebR n (vals (keptA ts (vals ps))) := by rw [vals_kept]; exact hR.kept _
    have hz4 : (keptA ts (vals ps)).length ≤ 1000 := Nat.le_trans (List.length_filter_le _ _) hz1
    refine ⟨W2, n, _, rfl, hW2, hR2, hz4, hn, fun H2 p fs s2 hF => ?_⟩
    refine ⟨p, rfl, ⟨_, sqL hF.lst⟩, fun D nD => ?_⟩
    refine lc_it (walk_list (K := K) (a := p) (xs := refs fs)) (LcP H2 D fun i out H3 => out = (((vals fs).take i).map fun P => V.bl (decide ((postsIn posts P).length < 2))))
      (LcP.start nD rfl) (fun i H3 _ p => ?_) (fun i x H3 H4 hi p y => ?_) (fun H3 p => ?_)
    · obtain ⟨out, _, s3, _⟩ := p
      exact s3.seq (sqL hF.lst)
    · obtain ⟨out, hl, s3, e3, eo⟩ := p
      obtain ⟨rfl, hx⟩ := y
      obtain ⟨g, hg, rfl⟩ := refs_at hx
      have hgm := List.mem_of_getElem? hg
      have hv : (vals fs)[i]? = some g.2 := by rw [List.getElem?_map, hg] <;> rfl
      refine ⟨rfl, .ref po, rfl, .ref g.1, rfl, po, g.1, posts, g.2, rfl, s3 _ _ (s2 _ _ (s1 _ _ hpo)), s3 _ _ (hF.each g hgm), hz2, fun H5 p5 s5 e5 => ?_⟩
      refine ⟨p5, _, rfl, .inl (sqL e5), _, _, rfl, rfl, ?_⟩
      refine LcP.push nD hi (by rw [List.length_map]; have := hF.few; omega) hl (s3.trans s5) (s5 _ _ e3) ?_
      rw [take_more hv, List.map_append, eo, List.map_singleton, List.length_map]
      have he : decide (((postsIn posts g.2).length : Int) < 2) = decide ((postsIn posts g.2).length < 2) := by
        rw [Bool.eq_iff_iff, decide_eq_true_eq, decide_eq_true_eq]
        omega
      show _ ++ [V.bl (decide (((postsIn posts g.2).length : Int) < 2))] = _
      rw [he]
    · obtain ⟨out, hl, s3, e3, eo⟩ := p
      rw [List.take_of_length_le (by rw [List.length_map, List.length_map]; exact Nat.le_refl _)] at eo
      rw [eo] at e3
      refine ⟨D, (vals fs).map (fun P => decide ((postsIn posts P).length < 2)), rfl, ?_, q H3 _ (s1.trans (s2.trans s3)) ?_⟩
      · rw [List.map_map]
        exact sqL e3
      · have ok := hF.ok
        rw [vals_kept] at ok
        rw [← ok.parting hnd hpr, List.all_map, List.all_eq_true]
        exact ⟨fun z P hP => of_decide_eq_true (z P hP), fun z P hP => decide_eq_true (z P hP)⟩

def spByWeight : Sp := fun vs H Q _ => ∃ (t : Addr) (v : Tie), vs = [.ref t] ∧ H t = some (.tup (tieV v)) ∧ ∀ (H' : Hp) (p : Addr), Same H H' → H' p = some (.tup [.int (-v.2.2), .int v.1, .int v.2.1]) → Q (.ref p) H'
theorem okByWeight {f : Addr} {fd : FuncData} {k : Nat} (F : Fun K "by_weight" "by_weight" sByWeight f fd) (T : Mg mg) : FnOk P w K mg base CX0 (k + 1) f fd ["tie"] spByWeight := by
  refine F.ok scByWeight (fun vs H Q E h => ?_) (fun cdv A outer s H vs Q E hr h => ?_)
  · obtain ⟨t, v, rfl, _⟩ := h
    rfl
  · obtain ⟨t, v, rfl, et, q⟩ := h
    refine ⟨_, pss_one (ps_ret (pe_op op_catT (pe_tup (pa_cons (pe_un un_neg (pe_ix ix_tup (pv 0) pe_int (fun _ _ => rfl))) pa_nil)) (pe_slice (r := rSlT K) sl_tup (pv 0) po_none (po_some pe_int)))), ?_⟩
    refine ⟨.ref t, rfl, t, _, 2, .int v.2.2, rfl, rfl, sqT et, atI_nat (j := 2) rfl, v.2.2, rfl, (by show 1 ≤ sizeLine; decide), fun u nu => ?_⟩
    have s1 : Same H (upd H u (.tup [.int (-v.2.2)])) := same_upd nu
    refine ⟨.ref t, rfl, 2, rfl, t, tieV v, rfl, sqT (s1 _ _ et), (by show ¬ (0 = 0 ∧ 2 = 3); decide), fun u2 nu2 => ?_⟩
    have s2 := same_upd (o := .tup (cutV (tieV v) none (some 2))) nu2
    refine ⟨u, u2, _, _, rfl, rfl, sqT (s2 _ _ upd_same), sqT upd_same, (fun z => by cases z), (by show 3 ≤ sizeLine; decide), (fun z => by cases z), fun _ p np => ?_⟩
    exact q _ p (s1.trans (s2.trans (same_upd np))) upd_same

def spCutBy : Sp := fun vs H Q _ => ∃ (W O : Addr) (n : Nat) (ts : List (Addr × Tie)) (os : List Int) (o : Int → Int), vs = [.ref W, .ref O] ∧ WebAt H W n ts ∧ WebR n (vals ts) ∧ ts.length ≤ 1000 ∧ H O = some (.tup (os.map V.int)) ∧ os.length = n ∧
  (∀ i : Nat, i < n → os[i]? = some (o i)) ∧ ∀ (H' : Hp) (p : Addr) (ps : List (Addr × (Int × Int))), Same H H' → CutAt H' p ps → vals ps = cutBy (vals ts) o → ps.length ≤ ts.length → Q (.ref p) H'
theorem okCutBy {f : Addr} {fd : FuncData} {k : Nat} (F : Fun K "cut_by" "cut_by" sCutBy f fd) (T : Mg mg) : FnOk P w K mg base CX0 (k + 1) f fd ["web", "owners"] spCutBy := by
  refine F.ok scCutBy (fun vs H Q E h => ?_) (fun cdv A outer s H vs Q E hr h => ?_)
  · obtain ⟨W, O, n, ts, os, o, rfl, _⟩ := h
    rfl
  · obtain ⟨W, O, n, ts, os, o, rfl, hW, hR, hz1, hO, hon, ho, q⟩ := h
    obtain ⟨t0, eW, eT⟩ := hW.ex
    have hzr : (refs ts).length ≤ 100000 := by rw [List.length_map]; omega
    refine ⟨_, pss_one (ps_ret (pe_lc (own := [("a", 2), ("b", 3), ("weight", 4)]) (g := gTup K 3 (gCons (gName 2) (gCons (gName 3) (gCons (gName 4) gNil)))) rfl scCutBy.nd
        (pi_tup (pe_ix ix_tup (pv 0) pe_int (fun _ _ => rfl))) (blkOk_by (N := ["web", "owners", "a", "b", "weight"]) (sc := defScope sCutBy) (by decide +kernel))
        (fun _ _ _ _ _ => pg_tup rfl (pgs_cons (pg_name (i := 2) scCutBy.nd rfl (.inl rfl)) (pgs_cons (pg_name (i := 3) scCutBy.nd rfl (.inl rfl)) (pgs_cons (pg_name (i := 4) scCutBy.nd rfl (.inl rfl)) pgs_nil))))
        (fun _ _ _ _ _ => pts_one (pt_cmpR op_ne (pe_ix (r := rIxT K) ix_tup (pv 1) (pv 2) (fun _ _ => rfl)) (pe_ix (r := rIxT K) ix_tup (pv 1) (pv 3) (fun _ _ => rfl)) (nomark _))) (fun _ _ _ _ _ => pe_tup (pa_cons (pv 2) (pa_cons (pv 3) pa_nil))))), ?_⟩
    refine ⟨.ref W, rfl, W, _, 1, .ref t0, rfl, rfl, sqT eW, atI_nat (j := 1) rfl, t0, rfl, ⟨_, sqT eT⟩, fun D nD => ?_⟩
    refine lc_it (walk_tup (K := K) (a := t0) (xs := refs ts)) (LcP H D fun i out H3 => ∃ ps : List (Addr × (Int × Int)), out = refs ps ∧ (∀ r ∈ ps, H3 r.1 = some (.tup (prV r.2))) ∧ vals ps = cutBy ((vals ts).take i) o)
      (LcP.start nD ⟨[], rfl, (fun _ z => by cases z), rfl⟩) (fun i H3 _ p => ?_) (fun i x H3 H4 hi p y => ?_) (fun H3 p => ?_)
    · obtain ⟨out, _, s3, _⟩ := p
      exact Same.tup s3 (sqT eT)
    · obtain ⟨out, hl, s3, e3, ps, rfl, hr3, hm⟩ := p
      obtain ⟨rfl, hx⟩ := y
      obtain ⟨t, ht, rfl⟩ := refs_at hx
      have htm := List.mem_of_getElem? ht
      have et := s3 _ _ (hW.each t htm)
      have hv : (vals ts)[i]? = some t.2 := by rw [List.getElem?_map, ht] <;> rfl
      obtain ⟨ha, hb, _⟩ := hR t.2 (List.mem_of_getElem? hv)
      obtain ⟨a, ea, ha⟩ := nat_of ha
      obtain ⟨b, eb, hb⟩ := nat_of hb
      have eN := s3 _ _ hO
      have ga : atI (os.map V.int) t.2.1 = some (.int (o t.2.1)) := by
        rw [ea]
        exact atI_nat (by rw [List.getElem?_map, ho a ha] <;> rfl)
      have gb : atI (os.map V.int) t.2.2.1 = some (.int (o t.2.2.1)) := by
        rw [eb]
        exact atI_nat (by rw [List.getElem?_map, ho b hb] <;> rfl)
      refine ⟨t.1, tieV t.2, rfl, sqT et, rfl, _, _, rfl, _, _, rfl, _, _, rfl, rfl, rfl, .ref O, rfl, .int t.2.1, rfl, O, _, t.2.1, .int (o t.2.1), rfl, rfl, sqT eN, ga, .ref O, rfl, .int t.2.2.1, rfl, O, _, t.2.2.1, .int (o t.2.2.1), rfl, rfl, sqT eN, gb, rfl, _, rfl, ?_⟩
      have hc : ∀ l, cutBy (l ++ [t.2]) o = if (!decide (o t.2.1 = o t.2.2.1)) = true then cutBy l o ++ [prOf t.2] else cutBy l o := fun l => by
        unfold cutBy
        rw [filter_more]
        split
        · rw [List.map_append] <;> rfl
        · rfl
      have hd : (!decide (V.int (o t.2.1) = V.int (o t.2.2.1))) = !decide (o t.2.1 = o t.2.2.1) := by
        rw [dec_int] <;> rfl
      rw [hd]
      refine ite2 (fun c => ?_) (fun c => ?_)
      · refine ⟨.int t.2.1, rfl, .int t.2.2.1, rfl, (by show 2 ≤ sizeLine; decide), fun u nu => ?_⟩
        have s4 : Same H4 (upd H4 u (.tup [.int t.2.1, .int t.2.2.1])) := same_upd nu
        have huD : u ≠ D := (ne_of_none e3 nu).symm
        refine LcP.push nD hi hzr hl (s3.trans s4) (s4 _ _ e3) ⟨ps ++ [(u, prOf t.2)], (refs_snoc ps (u, prOf t.2)).symm, fun r hr' => ?_, ?_⟩
        · rcases List.mem_append.mp hr' with q | q
          · have e := s4 _ _ (hr3 r q)
            rw [upd_ne (ne_of (hr3 r q) e3 (by intro z; cases z))]
            exact e
          · rw [List.mem_singleton.mp q]
            show upd _ D _ u = _
            rw [upd_ne huD, upd_same] <;> rfl
        · rw [take_more hv, hc, if_pos c, ← hm]
          exact List.map_append
      · refine LcP.skip hl s3 e3 ⟨ps, rfl, hr3, ?_⟩
        rw [take_more hv, hc, if_neg c, hm]
    · obtain ⟨out, hl, s3, e3, ps, rfl, hr3, hm⟩ := p
      rw [List.take_of_length_le (by rw [List.length_map, List.length_map]; exact Nat.le_refl _)] at hm
      rw [List.length_map, List.length_map] at hl
      exact q H3 D ps s3 ⟨e3, hr3⟩ hm hl
end
end K8

/-! owners_of -/
namespace K8
open PySem PySem.Spec PyProof.Rows L2 K8S
theorem flat_rep {α : Type} (x : α) : ∀ m : Nat, (List.replicate m [x]).flatten = List.replicate m x
  | 0 => rfl
  | m + 1 => by
    rw [List.replicate_succ, List.flatten_cons, flat_rep x m, List.replicate_succ] <;> rfl
/-- a list of a function's values -/
def Tb (os : List Int) (n : Nat) (o : Int → Int) : Prop := os.length = n ∧ ∀ i : Nat, i < n → os[i]? = some (o i)
theorem Tb.set {os : List Int} {n : Nat} {o : Int → Int} (h : Tb os n o) (j : Nat) (v : Int) : Tb (os.set j v) n fun x => if x = (j : Int) then v else o x := by
  refine ⟨by rw [List.length_set]; exact h.1, fun i hi => ?_⟩
  by_cases e : i = j
  · subst e
    rw [List.getElem?_set_self (by rw [h.1]; exact hi)]
    show some v = some (if (i : Int) = i then v else o i)
    rw [if_pos rfl]
  · rw [List.getElem?_set_ne (fun z => e z.symm), h.2 i hi]
    show some (o i) = some (if (i : Int) = j then v else o i)
    rw [if_neg (by omega)]
theorem ix_of {n : Nat} {x : Int} (h : 0 ≤ x ∧ x < n) : ixN n x = some x.toNat := by
  unfold ixN
  rw [if_pos h.1, if_pos (by omega)] <;> rfl
/-- all stands but what is at D -/
def SameB (D : Addr) (H H' : Hp) : Prop := ∀ a x, a ≠ D → H a = some x → H' a = some x
theorem SameB.refl {D : Addr} {H : Hp} : SameB D H H := fun _ _ _ e => e
theorem SameB.trans {D : Addr} {H H' H'' : Hp} (h : SameB D H H') (g : SameB D H' H'') : SameB D H H'' := fun a x n e => g a x n (h a x n e)
theorem SameB.of {D : Addr} {H H' : Hp} (h : Same H H') : SameB D H H' := fun a x _ e => h a x e
theorem SameB.put {D : Addr} {H H' : Hp} (h : SameB D H H') (o : HO) : SameB D H (upd H' D o) := fun a x n e => by
  rw [upd_ne n]
  exact h a x n e
section
variable {P : Program} {w : World} {K : PySem.W.Frag} {mg : Str → Option Value} {base : Heap}
def spOwnersOf : Sp := fun vs H Q _ => ∃ (W po c : Addr) (n : Nat) (ts : List (Addr × Tie)) (posts : List Int) (ps : List (Addr × (Int × Int))), vs = [.ref W, .ref po, .ref c] ∧ WebAt H W n ts ∧ WebR n (vals ts) ∧ ts.length ≤ 1000 ∧ n < 64 ∧
  H po = some (.lst (posts.map V.int)) ∧ posts.length ≤ 1000 ∧ posts ≠ [] ∧ (∀ p ∈ posts, 0 ≤ p ∧ p < (n : Int)) ∧ CutAt H c ps ∧ ps.length ≤ 1000 ∧ Parting (kept (vals ts) (vals ps)) posts ∧
  ∀ (H' : Hp) (p : Addr) (os : List Int) (d : Int) (o : Int → Int), Same H H' → H' p = some (.tup (os.map V.int)) → Tb os n o → OwnOk n (kept (vals ts) (vals ps)) posts d o → Q (.ref p) H'
theorem okOwnersOf {f : Addr} {fd : FuncData} {k : Nat} (F : Fun K "owners_of" "owners_of" sOwnersOf f fd) (T : Mg mg) (DW : Dn P w K mg base "without" k spWithout) (DB : Dn P w K mg base "beside" k spBeside) (DH : Dn P w K mg base "hangs_on" k spHangsOn) :
    FnOk P w K mg base CX0 (k + 1) f fd ["web", "posts", "cut"] spOwnersOf := by
  refine F.ok scOwnersOf (fun vs H Q E h => ?_) (fun cdv A outer s H vs Q E hr h => ?_)
  · obtain ⟨W, po, c, n, ts, posts, ps, rfl, _⟩ := h
    rfl
  · obtain ⟨W, po, c, n, ts, posts, ps, rfl, hW, hR, hz1, hn, hpo, hz2, hp0, hpr, hC, hz3, hP, q⟩ := h
    obtain ⟨t0, eW, _⟩ := hW.ex
    obtain ⟨d, pr, rfl⟩ : ∃ d pr, posts = d :: pr := by
      cases posts with
      | nil => exact absurd rfl hp0
      | cons d pr => exact ⟨d, pr, rfl⟩
    refine ⟨_, pss_cons (ps_set (i := 3) scOwnersOf.nd rfl (.inl rfl) (pe_op op_rep (pe_lst (pa_cons (pe_ix ix_list (pv 1) pe_int (fun _ _ => rfl)) pa_nil)) (pe_ix ix_tup (pv 0) pe_int (fun _ _ => rfl))))
      (pss_cons (ps_set (i := 4) scOwnersOf.nd rfl (.inl rfl) (pe_dn DB hr (by rfl) (pa_cons (pe_dn DW hr (by rfl) (pa_cons (pv 0) (pa_cons (pv 2) pa_nil))) pa_nil)))
      (pss_cons (ps_for PassesOwn.never rfl (pi_list (pv 1)) (pg_name (i := 5) scOwnersOf.nd rfl (.inl rfl))
        (pss_one (ps_for PassesOwn.never rfl (pi_list (pe_dn DH hr (by rfl) (pa_cons (pv 4) (pa_cons (pv 5) pa_nil)))) (pg_name (i := 6) scOwnersOf.nd rfl (.inl rfl))
          (pss_one (ps_asg (pv 5) (pg_sub (pv 3) (pv 6) set_list))))))
      (pss_one (ps_ret (pe_callTy call_tuple_of (by rfl) T.tuple (by decide +kernel) (pa_cons (pv 3) pa_nil)))))), ?_⟩
    refine ⟨.ref po, rfl, po, _, 0, .int d, rfl, rfl, sqL hpo, atI_nat (j := 0) rfl, (by show 1 ≤ sizeLine; decide), fun u nu => ?_⟩
    have s1 : Same H (upd H u (.lst [.int d])) := same_upd nu
    refine ⟨.ref W, rfl, W, _, 0, .int n, rfl, rfl, sqT (s1 _ _ eW), atI_nat (j := 0) rfl, u, n, _, rfl, rfl, upd_same, by omega, by omega, ?_, fun D nD => ?_⟩
    · rw [List.length_singleton, sizeLine_eq]; omega
    have nD0 := s1.free nD
    have s2 := s1.trans (same_upd (o := .lst (List.replicate (Int.toNat (n : Int)) [V.int d]).flatten) nD)
    refine ⟨.ref W, rfl, .ref c, rfl, W, c, n, ts, ps, rfl, hW.same s2, hC.same s2, hz1, hz3, fun H3 W2 s3 hW2 => ?_⟩
    have hR2 : WebR n (vals (keptA ts (vals ps))) := by rw [vals_kept]; exact hR.kept _
    have hz4 : (keptA ts (vals ps)).length ≤ 1000 := Nat.le_trans (List.length_filter_le _ _) hz1
    have eD3 : H3 D = some (.lst (List.replicate (Int.toNat (n : Int)) [V.int d]).flatten) := s3 _ _ upd_same
    refine ⟨W2, n, _, rfl, hW2, hR2, hz4, by omega, fun H4 l s4 hN => ?_⟩
    rw [vals_kept] at hN hR2
    have eD4 := s4 _ _ eD3
    rw [Int.toNat_natCast, flat_rep] at eD4
    have s14 : Same H H4 := s2.trans (s3.trans s4)
    have hS : ∀ {H5 : Hp}, SameB D H4 H5 → Same H H5 := fun b a x e => b a x (ne_of_none e nD0) (s14 _ _ e)
    have hNN : ∀ {H5 : Hp}, SameB D H4 H5 → NearAt H5 l n (kept (vals ts) (vals ps)) := fun b => hN _ fun a x e1 e2 => b a x (fun z => by rw [z, eD3] at e1; cases e1) e2
    refine ⟨.ref po, rfl, po, rfl, ⟨_, sqL (s14 _ _ hpo)⟩, ?_⟩
    refine for_list (K := K) (a := po) (xs := (d :: pr).map V.int) (fun j σ H5 => ∃ (y5 y6 : Option V) (os : List Int) (o : Int → Int), σ = [some (.ref W), some (.ref po), some (.ref c), some (.ref D), some (.ref l), y5, y6] ∧ SameB D H4 H5 ∧ H5 D = some (.lst (os.map V.int)) ∧ Tb os n o ∧
        (∀ x : Int, 0 ≤ x → x < n → ∀ p ∈ (d :: pr).take j, Reach (kept (vals ts) (vals ps)) p x → o x = p) ∧ ∀ x : Int, 0 ≤ x → x < n → (∀ p ∈ (d :: pr).take j, ¬ Reach (kept (vals ts) (vals ps)) p x) → o x = d)
      ⟨none, none, List.replicate n d, fun _ => d, rfl, .refl, by rw [eD4, List.map_replicate], ⟨List.length_replicate, fun i hi => by rw [List.getElem?_replicate, if_pos hi]⟩, (fun _ _ _ _ z => by cases z), fun _ _ _ _ => rfl⟩
      (fun j σ H5 _ p5 => ?_) (fun j v σ H5 hv p5 => ?_) (fun σ H5 p5 => ?_)
    · obtain ⟨_, _, _, _, _, b5, _⟩ := p5
      exact sqL (hS b5 _ _ hpo)
    · obtain ⟨y5, y6, os, o, rfl, b5, e5, ht, h1, h2⟩ := p5
      obtain ⟨p, ep, rfl⟩ := ints_at hv
      have hpm := List.mem_of_getElem? ep
      refine ⟨.ref l, rfl, .int p, rfl, l, p, n, _, rfl, hNN b5, hR2, hpr p hpm, hn, fun H6 u cs s6 nu eu _ hcm hcl => ?_⟩
      have huD : u ≠ D := (ne_of_none e5 nu).symm
      refine ⟨u, rfl, ⟨_, sqL eu⟩, ?_⟩
      refine for_list (K := K) (a := u) (xs := cs.map V.int) (fun m σ H7 => ∃ (y6 : Option V) (os' : List Int) (o' : Int → Int), σ = [some (.ref W), some (.ref po), some (.ref c), some (.ref D), some (.ref l), some (.int p), y6] ∧ SameB D H6 H7 ∧ H7 D = some (.lst (os'.map V.int)) ∧ Tb os' n o' ∧
          ∀ x : Int, o' x = if x ∈ cs.take m then p else o x)
        ⟨y6, os, o, rfl, .refl, s6 _ _ e5, ht, fun x => by rw [List.take_zero, if_neg (fun z => by cases z)]⟩ (fun m σ H7 _ p7 => ?_) (fun m v σ H7 hv p7 => ?_) (fun σ H7 p7 => ?_)
      · obtain ⟨_, _, _, _, b7, _⟩ := p7
        exact sqL (b7 _ _ huD eu)
      · obtain ⟨y6, os', o', rfl, b7, e7, ht', ho'⟩ := p7
        obtain ⟨x, ex, rfl⟩ := ints_at hv
        have hxm := List.mem_of_getElem? ex
        have hxr := hR2.reach (hpr p hpm) ((hcm x).mp hxm)
        have ex2 : ((x.toNat : Nat) : Int) = x := Int.toNat_of_nonneg hxr.1
        refine ⟨.int p, rfl, .ref D, rfl, .int x, rfl, D, _, x, x.toNat, rfl, rfl, e7, ix_of (by rw [List.length_map, ht'.1]; exact hxr), ?_⟩
        refine ⟨_, os'.set x.toNat p, _, rfl, b7.put _, by rw [upd_same, List.map_set], ht'.set x.toNat p, fun z => ?_⟩
        show (if z = ((x.toNat : Nat) : Int) then p else o' z) = _
        rw [ex2, take_more ex, ho']
        by_cases e : z = x
        · rw [if_pos e, if_pos (by rw [e]; exact List.mem_append_right _ (List.mem_singleton.mpr rfl))]
        · rw [if_neg e]
          by_cases m' : z ∈ cs.take m
          · rw [if_pos m', if_pos (List.mem_append_left _ m')]
          · rw [if_neg m', if_neg fun q => by rcases List.mem_append.mp q with q | q; exact m' q; exact e (List.mem_singleton.mp q)]
      · obtain ⟨y6, os', o', rfl, b7, e7, ht', ho'⟩ := p7
        rw [List.length_map, List.take_length] at ho'
        refine ⟨_, _, os', o', rfl, b5.trans ((SameB.of s6).trans b7), e7, ht', fun x hx0 hx1 q hq r => ?_, fun x hx0 hx1 hno => ?_⟩
        · rw [take_more ep] at hq
          rw [ho']
          by_cases m : x ∈ cs
          · rw [if_pos m]
            have hqm : q ∈ d :: pr := by
              rcases List.mem_append.mp hq with z | z
              · exact List.mem_of_mem_take z
              · rw [List.mem_singleton.mp z]; exact hpm
            exact hP p hpm q hqm (((hcm x).mp m).trans r.symm)
          · rw [if_neg m]
            rcases List.mem_append.mp hq with z | z
            · exact h1 x hx0 hx1 q z r
            · rw [List.mem_singleton.mp z] at r
              exact absurd ((hcm x).mpr r) m
        · rw [take_more ep] at hno
          rw [ho', if_neg fun m => hno p (List.mem_append_right _ (List.mem_singleton.mpr rfl)) ((hcm x).mp m)]
          exact h2 x hx0 hx1 fun q hq => hno q (List.mem_append_left _ hq)
    · obtain ⟨y5, y6, os, o, rfl, b5, e5, ht, h1, h2⟩ := p5
      rw [List.length_map, List.take_length] at h1 h2
      refine ⟨.ref D, rfl, D, os.map V.int, rfl, .inl ⟨sqL e5, fun p np => q _ p os d o ((hS b5).trans (same_upd np)) upd_same ht ⟨h1, h2⟩⟩⟩
end
end K8

/-! pruned -/
namespace K8
open PySem PySem.Spec PyProof.Rows L2 K8S
def decK : List Key → List Int := fun k => k.map fun x => match x with
  | .inl i => i
  | .inr _ => 0
theorem decK_ky (p : Int × Int) : decK (ky p) = [p.1, p.2] := rfl
theorem dp_pr {K : PySem.W.Frag} {H : Hp} {a : Addr} {p : Int × Int} (h : SqT K H a (prV p)) : Dp K H (.ref a) (.tuple [.int p.1, .int p.2]) := .tup h (.cons (.int _) (.cons (.int _) .nil))
section
variable {P : Program} {w : World} {K : PySem.W.Frag} {mg : Str → Option Value} {base : Heap}
def spPruned : Sp := fun vs H Q _ => ∃ (W po c : Addr) (n : Nat) (ts : List (Addr × Tie)) (posts : List Int) (ps : List (Addr × (Int × Int))), vs = [.ref W, .ref po, .ref c] ∧ WebAt H W n ts ∧ WebR n (vals ts) ∧ ts.length ≤ 1000 ∧ n < 64 ∧
  H po = some (.lst (posts.map V.int)) ∧ posts.length ≤ 1000 ∧ posts.Nodup ∧ (∀ p ∈ posts, 0 ≤ p ∧ p < (n : Int)) ∧ CutAt H c ps ∧ ps.length ≤ 1000 ∧ Parting (kept (vals ts) (vals ps)) posts ∧
  ∀ (H' : Hp) (p : Addr) (L : List (Addr × (Int × Int))), Same H H' → CutAt H' p L → (∀ x ∈ vals L, x ∈ vals ps) → L.length ≤ ps.length → Parting (kept (vals ts) (vals L)) posts → Q (.ref p) H'
theorem okPruned {f : Addr} {fd : FuncData} {k j : Nat} (F : Fun K "pruned" "pruned" sPruned f fd) (T : Mg mg) (DI : Dn P w K mg base "is_parting" k spIsParting) (DY : Dn P w K mg base "by_weight" j spByWeight) (hj : j + 2 ≤ k) :
    FnOk P w K mg base CX0 (k + 1) f fd ["web", "posts", "cut"] spPruned := by
  refine F.ok scPruned (fun vs H Q E h => ?_) (fun cdv A outer s H vs Q E hr h => ?_)
  · obtain ⟨W, po, c, n, ts, posts, ps, rfl, _⟩ := h
    rfl
  · obtain ⟨W, po, c, n, ts, posts, ps, rfl, hW, hR, hz1, hn, hpo, hz2, hnd, hpr, hC, hz3, hP, q⟩ := h
    obtain ⟨t0, eW, eT⟩ := hW.ex
    obtain ⟨g, gd, gps, G, hm, kp, hb⟩ := DY.ex
    refine ⟨_, pss_cons (ps_set (i := 3) scPruned.nd rfl (.inr rfl) (pe_callTy (cr_dictT rfl hr.units) (by rfl) T.dict (by decide +kernel) (pa_cons (pe_lc (own := [("pair", 7)]) (g := gName 7) (tt := tYes) rfl scPruned.nd (pi_list (pv 2)) (blkOk_by (N := ["web", "posts", "cut", "there", "left", "tie", "fewer", "pair"]) (sc := defScope sPruned) (by decide +kernel))
        (fun _ _ _ _ _ => pg_name (i := 7) scPruned.nd rfl (Or.inl rfl)) (fun _ _ _ _ _ => pts_nil) (fun _ _ _ _ _ => pe_tup (pa_cons (pe_callTy (T := "tuple") (r := rTupT K) cr_tupT (by rfl) T.tuple (by decide +kernel) (pa_cons (pv 7) pa_nil)) (pa_cons pe_bl pa_nil)))) pa_nil)))
      (pss_cons (ps_setLc (i := 4) (own := [("pair", 7)]) (g := gName 7) (tt := tYes) rfl scPruned.nd rfl rfl (sw_true rfl rfl rfl (by decide +kernel)) (pi_list (pe_callB (cr_sortDT rfl) (by rfl) T.sorted (by decide +kernel) (pa_cons (pv 3) pa_nil))) (blkOk_by (N := ["web", "posts", "cut", "there", "left", "tie", "fewer", "pair"]) (sc := defScope sPruned) (by decide +kernel))
        (fun _ _ _ _ _ => pg_name (i := 7) scPruned.nd rfl (Or.inl rfl)) (fun _ _ _ _ _ => pts_nil) (fun _ _ _ _ _ => pv 7))
      (pss_cons (ps_for PassesOwn.never rfl (pi_list (pe_callBK (cr_sortK G (hr.mono hj) hb) (by rfl) T.sorted (by decide +kernel)
          (pa_cons (pe_lc (own := [("tie", 5)]) (g := gName 5) rfl scPruned.nd (pi_tup (pe_ix ix_tup (pv 0) pe_int (fun _ _ => rfl))) (blkOk_by (N := ["web", "posts", "cut", "there", "left", "tie", "fewer", "pair"]) (sc := defScope sPruned) (by decide +kernel))
            (fun _ _ _ _ _ => pg_name (i := 5) scPruned.nd rfl (.inl rfl)) (fun _ _ _ _ _ => pts_one (pt_cmp (pc_din (hu_of hr) (pe_slice (r := rSlT K) sl_tup (pv 5) po_none (po_some pe_int)) (pv 3)))) (fun _ _ _ _ _ => pv 5)) pa_nil)
          (pk_cons (pe_glob (v := .ref g) (by rfl) hm rfl) pk_nil))) (pg_name (i := 5) scPruned.nd rfl (.inr rfl))
        (pss_cons (ps_setLc (i := 6) (own := [("pair", 7)]) (g := gName 7) rfl scPruned.nd rfl rfl (sw_true rfl rfl rfl (by decide +kernel)) (pi_list (pv 4)) (blkOk_by (N := ["web", "posts", "cut", "there", "left", "tie", "fewer", "pair"]) (sc := defScope sPruned) (by decide +kernel))
            (fun _ _ _ _ _ => pg_name (i := 7) scPruned.nd rfl (Or.inl rfl)) (fun _ _ _ _ _ => pts_one (pt_cmpR (r := rNeD K) (op_neD hr.units) (pv 7) (pe_slice (r := rSlT K) sl_tup (pv 5) po_none (po_some pe_int)) (nomark _))) (fun _ _ _ _ _ => pv 7))
          (pss_one (ps_if (pt_val (pe_dn DI hr (by rfl) (pa_cons (pv 0) (pa_cons (pv 1) (pa_cons (pv 6) pa_nil))))) (pss_one (ps_set (i := 4) scPruned.nd rfl (.inl rfl) (pv 6))) pss_nil))))
      (pss_one (ps_ret (pv 4))))), ?_⟩
    refine ⟨.ref c, rfl, c, rfl, ⟨_, sqL hC.lst⟩, fun D nD => ?_⟩
    refine lc_it (walk_list (K := K) (a := c) (xs := refs ps)) (LcP H D fun i out H3 => ∃ rows : List K8S.Row, out = (rows.map fun r => V.ref r.1) ∧ (∀ r ∈ rows, H3 r.1 = some (.tup [.ref r.2.1, .bl true])) ∧ (rows.map fun r => r.2) = (ps.take i).map fun p => (p.1, [p.2.1, p.2.2]))
      (LcP.start nD ⟨[], rfl, (fun _ z => by cases z), rfl⟩) (fun i H3 _ p => ?_) (fun i x H3 H4 hi p y => ?_) (fun H3 p => ?_)
    · obtain ⟨out, _, s3, _⟩ := p
      exact s3.seq (sqL hC.lst)
    · obtain ⟨out, hl, s3, e3, rows, rfl, hr3, hm⟩ := p
      obtain ⟨rfl, hx⟩ := y
      obtain ⟨p, hp, rfl⟩ := refs_at hx
      have hpm := List.mem_of_getElem? hp
      refine ⟨rfl, .ref p.1, rfl, p.1, prV p.2, rfl, sqT (s3 _ _ (hC.each p hpm)), by show 2 ≤ sizeLine; decide, fun t nt => ?_⟩
      have s4 : Same H4 (upd H4 t (.tup [.ref p.1, .bl true])) := same_upd nt
      have htD : t ≠ D := (ne_of_none e3 nt).symm
      refine LcP.push nD hi (by rw [List.length_map]; omega) hl (s3.trans s4) (s4 _ _ e3) ⟨rows ++ [(t, p.1, [p.2.1, p.2.2])], by rw [List.map_append] <;> rfl, fun r hr' => ?_, ?_⟩
      · rcases List.mem_append.mp hr' with z | z
        · have e := s4 _ _ (hr3 r z)
          rw [upd_ne (ne_of (hr3 r z) e3 (by intro z; cases z))]
          exact e
        · rw [List.mem_singleton.mp z]
          show upd _ D _ t = _
          rw [upd_ne htD, upd_same]
      · rw [List.map_append, hm, take_more hp, List.map_append] <;> rfl
    · obtain ⟨out, hl, s3, e3, rows, rfl, hr3, hm⟩ := p
      have hm' : (rows.map fun r => r.2) = ps.map fun p => (p.1, [p.2.1, p.2.2]) := by
        rw [hm, List.take_of_length_le (by rw [List.length_map]; exact Nat.le_refl _)]
      have hlen : rows.length = ps.length := by
        have := congrArg List.length hm'
        rwa [List.length_map, List.length_map] at this
      refine ⟨D, rows, rfl, sqL e3, by omega, fun r hr' => ⟨hr3 r hr', ?_⟩, fun d kvs nd hkl hk => ?_⟩
      · have hm2 : r.2 ∈ rows.map fun r => r.2 := List.mem_map.mpr ⟨r, hr', rfl⟩
        rw [hm'] at hm2
        obtain ⟨p, hp, e⟩ := List.mem_map.mp hm2
        rw [← e]
        exact s3 _ _ (hC.each p hp)
      have hKy : KeysOk kvs (vals ps) := fun k => by
        rw [hk]
        constructor
        · rintro ⟨r, hr', rfl⟩
          have hm2 : r.2 ∈ rows.map fun r => r.2 := List.mem_map.mpr ⟨r, hr', rfl⟩
          rw [hm'] at hm2
          obtain ⟨p, hp, e⟩ := List.mem_map.mp hm2
          refine ⟨p.2, List.mem_map.mpr ⟨p, hp, rfl⟩, ?_⟩
          rw [← e] <;> rfl
        · rintro ⟨p, hp, rfl⟩
          obtain ⟨p', hp', rfl⟩ := List.mem_map.mp hp
          have hm2 : (p'.1, [p'.2.1, p'.2.2]) ∈ rows.map fun r => r.2 := by
            rw [hm']
            exact List.mem_map.mpr ⟨p', hp', rfl⟩
          obtain ⟨r, hr', e⟩ := List.mem_map.mp hm2
          refine ⟨r, hr', ?_⟩
          rw [e] <;> rfl
      have s1 : Same H (upd H3 d (.dT kvs)) := s3.trans (same_upd nd)
      have ed1 : (upd H3 d (.dT kvs)) d = some (.dT kvs) := upd_same
      have hkl1 : kvs.length ≤ ps.length := by omega
      generalize upd H3 d (.dT kvs) = H1 at s1 ed1
      refine ⟨.ref d, rfl, d, kvs, kvs.map fun kv => decK kv.1, rfl, .inl ed1, ?_, fun l hl => ?_, fun p bs np pm hbs => ?_⟩
      · rw [List.map_map]
        refine List.map_congr_left fun kv hkv => ?_
        obtain ⟨r, _, er⟩ := (hKy kv.1).mp (List.mem_map.mpr ⟨kv, hkv, rfl⟩)
        show kv.1 = (decK kv.1).map Sum.inl
        rw [er] <;> rfl
      · obtain ⟨kv, hkv, rfl⟩ := List.mem_map.mp hl
        obtain ⟨r, _, er⟩ := (hKy kv.1).mp (List.mem_map.mpr ⟨kv, hkv, rfl⟩)
        rw [er]
        intro z
        cases z
      have hbp : ∀ b ∈ bs, ∃ q ∈ vals ps, b.2 = [q.1, q.2] := fun b hb => by
        obtain ⟨kv, hkv, e⟩ := List.mem_map.mp (pm.mem_iff.mp (List.mem_map.mpr ⟨b, hb, rfl⟩))
        obtain ⟨r, hr', er⟩ := (hKy kv.1).mp (List.mem_map.mpr ⟨kv, hkv, rfl⟩)
        rw [er, decK_ky] at e
        exact ⟨r, hr', e.symm⟩
      have hbq : ∀ q ∈ vals ps, ∃ b ∈ bs, b.2 = [q.1, q.2] := fun q hq => by
        obtain ⟨kv, hkv, e⟩ := List.mem_map.mp ((hKy (ky q)).mpr ⟨q, hq, rfl⟩)
        have : [q.1, q.2] ∈ kvs.map fun kv => decK kv.1 := List.mem_map.mpr ⟨kv, hkv, by rw [e, decK_ky]⟩
        obtain ⟨b, hb, eb⟩ := List.mem_map.mp (pm.mem_iff.mpr this)
        exact ⟨b, hb, eb⟩
      have hbl : bs.length ≤ ps.length := by
        have := pm.length_eq
        rw [List.length_map, List.length_map] at this
        omega
      have s2 : Same H1 (upd H1 p (.lst (refs bs))) := same_upd np
      have ep2 : (upd H1 p (.lst (refs bs))) p = some (.lst (refs bs)) := upd_same
      refine ⟨p, rfl, ⟨_, sqL ep2⟩, ?_⟩
      show ∀ D, (upd H1 p (.lst (refs bs))) D = none → _
      have s12 := s1.trans s2
      have hb2 : ∀ b ∈ bs, (upd H1 p (.lst (refs bs))) b.1 = some (.tup (b.2.map V.int)) := fun b m => s2 _ _ (hbs b m)
      have ed2 := s2 _ _ ed1
      generalize upd H1 p (.lst (refs bs)) = H2 at s12 ep2 hb2 ed2
      refine fun D2 nD2 => ?_
      refine lc_it (walk_list (K := K) (a := p) (xs := refs bs)) (LcP H2 D2 fun i out H3 => out = (refs bs).take i)
        (LcP.start nD2 rfl) (fun i H3 _ p => ?_) (fun i x H3 H4 hi p y => ?_) (fun H3 p3 => ?_)
      · obtain ⟨out, _, s3, _⟩ := p
        exact s3.seq (sqL ep2)
      · obtain ⟨out, hl, s3, e3, eo⟩ := p
        obtain ⟨rfl, hx⟩ := y
        obtain ⟨b, hbj, rfl⟩ := refs_at hx
        refine ⟨rfl, .ref b.1, rfl, ?_⟩
        refine LcP.push nD2 hi (by rw [List.length_map]; omega) hl s3 e3 ?_
        rw [take_more hx, eo]
      · obtain ⟨out, hl, s3', e3', eo⟩ := p3
        rw [List.take_of_length_le (Nat.le_refl _)] at eo
        subst eo
        have s13 := s12.trans s3'
        have hL0 : CutAt H3 D2 (bs.map fun b => (b.1, decP b.2)) := by
          refine ⟨?_, fun r hr' => ?_⟩
          · rw [e3']
            unfold refs
            rw [List.map_map] <;> rfl
          · obtain ⟨b, hb, rfl⟩ := List.mem_map.mp hr'
            have e := s3' _ _ (hb2 b hb)
            obtain ⟨q, _, eq⟩ := hbp b hb
            rw [eq] at e
            show H3 b.1 = some (.tup (prV (decP b.2)))
            rw [eq]
            exact e
        have hv0 : ∀ x, x ∈ vals (bs.map fun b => (b.1, decP b.2)) ↔ x ∈ vals ps := fun x => by
          unfold vals
          rw [List.map_map]
          constructor
          · intro z
            obtain ⟨b, hb, e⟩ := List.mem_map.mp z
            obtain ⟨q, hq, eq⟩ := hbp b hb
            rw [← e]
            show decP b.2 ∈ _
            rw [eq]
            exact hq
          · intro z
            obtain ⟨b, hb, eb⟩ := hbq x z
            exact List.mem_map.mpr ⟨b, hb, by show decP b.2 = x; rw [eb] <;> rfl⟩
        have hP0 : Parting (kept (vals ts) (vals (bs.map fun b => (b.1, decP b.2)))) posts := by rw [kept_congr hv0]; exact hP
        have hl0 : (bs.map fun b => (b.1, decP b.2)).length ≤ ps.length := by rw [List.length_map]; exact hbl
        have hm0 : ∀ x ∈ vals (bs.map fun b => (b.1, decP b.2)), x ∈ vals ps := fun x h => (hv0 x).mp h
        generalize (bs.map fun b => (b.1, decP b.2)) = L0 at hL0 hP0 hl0 hm0
        have eW3 := s13 _ _ eW
        have eT3 := s13 _ _ eT
        have ed3 := s3' _ _ ed2
        refine ⟨.ref W, rfl, W, _, 1, .ref t0, rfl, rfl, sqT eW3, atI_nat (j := 1) rfl, t0, rfl, ⟨_, sqT eT3⟩, fun D3 nD3 => ?_⟩
        refine lc_it (walk_tup (K := K) (a := t0) (xs := refs ts)) (LcP H3 D3 fun i out H4 => ∃ us : List (Addr × Tie), out = refs us ∧ ∀ u ∈ us, u ∈ ts)
          (LcP.start nD3 ⟨[], rfl, fun _ z => by cases z⟩) (fun i H4 _ p => ?_) (fun i x H4 H5 hi p y => ?_) (fun H4 p4 => ?_)
        · obtain ⟨out, _, s4, _⟩ := p
          exact Same.tup s4 (sqT eT3)
        · obtain ⟨out, hl, s4, e4, us, rfl, hus⟩ := p
          obtain ⟨rfl, hx⟩ := y
          obtain ⟨t, ht, rfl⟩ := refs_at hx
          have htm := List.mem_of_getElem? ht
          have et := s4 _ _ (s13 _ _ (hW.each t htm))
          refine ⟨rfl, .ref t.1, rfl, 2, rfl, t.1, tieV t.2, rfl, sqT et, (by show ¬ (0 = 0 ∧ 2 = 3); decide), fun u nu => ?_⟩
          have s5 : Same H5 (upd H5 u (.tup (cutV (tieV t.2) none (some 2)))) := same_upd nu
          refine ⟨.ref d, rfl, d, valV kvs (ky (prOf t.2)), rfl, DGet.t (s5 _ _ (s4 _ _ ed3)) upd_same, ?_⟩
          refine ⟨_, rfl, ite2 (fun c => ?_) (fun c => ?_)⟩
          · refine ⟨.ref t.1, rfl, ?_⟩
            refine LcP.push nD3 hi (by rw [List.length_map]; omega) hl (s4.trans s5) (s5 _ _ e4) ⟨us ++ [t], (refs_snoc us t).symm, fun u hu => ?_⟩
            rcases List.mem_append.mp hu with z | z
            · exact hus u z
            · rw [List.mem_singleton.mp z]; exact htm
          · exact LcP.skip hl (s4.trans s5) (s5 _ _ e4) ⟨us, rfl, hus⟩
        · obtain ⟨out, hl, s4, e4, us, rfl, hus⟩ := p4
          refine ⟨D3, us.map (·.1), rfl, rfl, by rw [List.map_map]; exact sqL e4, fun b hb H5 Q' s5 hQ => ?_, fun H5 p5 bs' s5 np5 pm5 ep5 => ?_⟩
          · obtain ⟨u, hu, rfl⟩ := List.mem_map.mp hb
            exact ⟨u.1, u.2, rfl, s5 _ _ (s4 _ _ (s13 _ _ (hW.each u (hus u hu)))), fun H6 p6 s6 e6 => hQ p6 H6 s6 ⟨[-u.2.2.2, u.2.1, u.2.2.1], (fun z => by cases z), e6⟩⟩
          · have s15 := s13.trans (s4.trans s5)
            refine ⟨p5, rfl, ⟨_, sqL ep5⟩, ?_⟩
            refine for_list (K := K) (a := p5) (xs := bs'.map V.ref) (fun i σ H6 => ∃ (l : Addr) (y5 y6 : Option V) (L : List (Addr × (Int × Int))), σ = [some (.ref W), some (.ref po), some (.ref c), some (.ref d), some (.ref l), y5, y6, none] ∧ Same H5 H6 ∧ CutAt H6 l L ∧
                (∀ x ∈ vals L, x ∈ vals ps) ∧ L.length ≤ ps.length ∧ Parting (kept (vals ts) (vals L)) posts)
              ⟨D2, none, none, L0, rfl, .refl _, hL0.same (s4.trans s5), hm0, hl0, hP0⟩ (fun i σ H6 _ p6 => ?_) (fun i v σ H6 hv p6 => ?_) (fun σ H6 p6 => ?_)
            · obtain ⟨_, _, _, _, _, s6, _⟩ := p6
              exact s6.seq (sqL ep5)
            · obtain ⟨l, y5, y6, L, rfl, s6, hL, hLm, hLl, hLp⟩ := p6
              rw [List.getElem?_map] at hv
              obtain ⟨b, eb, rfl⟩ := Option.map_eq_some_iff.mp hv
              obtain ⟨u, hu, rfl⟩ := List.mem_map.mp (pm5.mem_iff.mp (List.mem_of_getElem? eb))
              have eu := s6 _ _ (s15 _ _ (hW.each u (hus u hu)))
              refine ⟨.ref l, rfl, l, rfl, ⟨_, sqL hL.lst⟩, fun D4 nD4 => ?_⟩
              refine lc_it (walk_list (K := K) (a := l) (xs := refs L)) (LcP H6 D4 fun i out H7 => ∃ M : List (Addr × (Int × Int)), out = refs M ∧ ∀ m ∈ M, m ∈ L)
                (LcP.start nD4 ⟨[], rfl, fun _ z => by cases z⟩) (fun i H7 _ p => ?_) (fun i x H7 H8 hi p y => ?_) (fun H7 p7 => ?_)
              · obtain ⟨out, _, s7, _⟩ := p
                exact s7.seq (sqL hL.lst)
              · obtain ⟨out, hl, s7, e7, M, rfl, hM⟩ := p
                obtain ⟨rfl, hx⟩ := y
                obtain ⟨m, hm', rfl⟩ := refs_at hx
                have hmm := List.mem_of_getElem? hm'
                refine ⟨rfl, .ref m.1, rfl, .ref u.1, rfl, 2, rfl, u.1, tieV u.2, rfl, sqT (s7 _ _ eu), (by show ¬ (0 = 0 ∧ 2 = 3); decide), fun x nx => ?_⟩
                have s8 : Same H8 (upd H8 x (.tup (cutV (tieV u.2) none (some 2)))) := same_upd nx
                refine ⟨_, _, dp_pr (sqT (s8 _ _ (s7 _ _ (hL.each m hmm)))), dp_pr (p := prOf u.2) (sqT upd_same), rfl, rfl, _, rfl, ite2 (fun c => ?_) (fun c => ?_)⟩
                · refine ⟨.ref m.1, rfl, ?_⟩
                  refine LcP.push nD4 hi (by rw [List.length_map]; omega) hl (s7.trans s8) (s8 _ _ e7) ⟨M ++ [m], (refs_snoc M m).symm, fun z hz => ?_⟩
                  rcases List.mem_append.mp hz with q | q
                  · exact hM z q
                  · rw [List.mem_singleton.mp q]; exact hmm
                · exact LcP.skip hl (s7.trans s8) (s8 _ _ e7) ⟨M, rfl, hM⟩
              · obtain ⟨out, hl, s7, e7, M, rfl, hM⟩ := p7
                have hCM : CutAt H7 D4 M := ⟨e7, fun m hm' => s7 _ _ (hL.each m (hM m hm'))⟩
                have hMm : ∀ x ∈ vals M, x ∈ vals ps := fun x hx => by
                  obtain ⟨m, hm', rfl⟩ := List.mem_map.mp hx
                  exact hLm _ (List.mem_map.mpr ⟨m, hM m hm', rfl⟩)
                have hMl : M.length ≤ ps.length := by rw [List.length_map, List.length_map] at hl; omega
                have s17 := s15.trans (s6.trans s7)
                refine ⟨.ref W, rfl, .ref po, rfl, .ref D4, rfl, W, po, D4, n, ts, posts, M, rfl, hW.same s17, hR, hz1, hn, s17 _ _ hpo, hz2, hnd, hpr, hCM, by omega, fun H8 bb s8 hb8 => ?_⟩
                refine ⟨bb, rfl, ite2 (fun cc => ?_) (fun cc => ?_)⟩
                · exact ⟨.ref D4, rfl, D4, _, _, M, rfl, s6.trans (s7.trans s8), hCM.same s8, hMm, hMl, hb8.mp cc⟩
                · exact ⟨l, _, _, L, rfl, s6.trans (s7.trans s8), hL.same (s7.trans s8), hLm, hLl, hLp⟩
            · obtain ⟨l, y5, y6, L, rfl, s6, hL, hLm, hLl, hLp⟩ := p6
              exact ⟨.ref l, rfl, q H6 l L (s15.trans s6) hL hLm hLl hLp⟩
end
end K8

/-! the law's draws: cell_at, box, take, many, weight -/
namespace K8
open PySem PySem.Spec PyProof.Rows L2 K8S
/-- the box of draws, k of which are taken -/
def Box (H : Hp) (bx : Addr) (k : Nat) : Prop := ∃ x y z : Int, H bx = some (.lst [.int x, .int y, .int z]) ∧ 0 ≤ x ∧ (0 ≤ y ∧ y < 9223372036854775808) ∧ 0 ≤ z ∧ z ≤ k
theorem Box.some {H : Hp} {bx : Addr} {k : Nat} (h : Box H bx k) : ∃ o, H bx = some o := by
  obtain ⟨x, y, z, e, _⟩ := h
  exact ⟨_, e⟩
theorem Box.same {H H' : Hp} {bx : Addr} {k : Nat} (h : Box H bx k) (s : Same H H') : Box H' bx k := by
  obtain ⟨x, y, z, e, r⟩ := h
  exact ⟨x, y, z, s _ _ e, r⟩
theorem Box.more {H : Hp} {bx : Addr} {k j : Nat} (h : Box H bx k) (l : k ≤ j) : Box H bx j := by
  obtain ⟨x, y, z, e, a, b, c, d⟩ := h
  exact ⟨x, y, z, e, a, b, c, by omega⟩
theorem Box.ne {H : Hp} {bx a : Addr} {k : Nat} (h : Box H bx k) (n : H a = none) : a ≠ bx := by
  obtain ⟨o, e⟩ := h.some
  intro z
  rw [z, e] at n
  cases n
theorem Box.tup {H : Hp} {bx a : Addr} {k : Nat} {xs : List V} (h : Box H bx k) (n : H a = Option.some (HO.tup xs)) : a ≠ bx := by
  obtain ⟨x, y, z, e, _⟩ := h
  intro q
  rw [q, e] at n
  cases n
theorem b01 (b : Bool) : -2 ^ 64 < (if b = true then (1 : Int) else 0) ∧ (if b = true then (1 : Int) else 0) < 2 ^ 64 := by
  cases b <;> decide
theorem b01' (b : Bool) : (0 : Int) ≤ (if b = true then (1 : Int) else 0) := by
  cases b <;> decide
section
variable {P : Program} {w : World} {K : PySem.W.Frag} {mg : Str → Option Value} {base : Heap}
def spCellAt (K : PySem.W.Frag) : Sp := fun vs H Q _ => ∃ (a : Addr) (ns : List Int) (k : Nat), vs = [.ref a, .int k] ∧ SqL K H a (ns.map V.int) ∧ ∀ x : Int, Q (.int x) H
theorem okCellAt {f : Addr} {fd : FuncData} {k : Nat} (F : Fun K "_law_cell_at" "_law_cell_at" sLCellAt f fd) (T : Mg mg) : FnOk P w K mg base CX0 (k + 1) f fd ["_law_script", "_law_k"] (spCellAt K) := by
  refine F.ok scLCellAt (fun vs H Q E h => ?_) (fun cdv A outer s H vs Q E hr h => ?_)
  · obtain ⟨a, ns, j, rfl, _⟩ := h
    rfl
  · obtain ⟨a, ns, j, rfl, hS, q⟩ := h
    refine ⟨_, pss_cons (ps_if (pt_cmpR op_lt (pv 1) (pe_callB (r := rLenS K) cr_lenS (by rfl) T.len (by decide +kernel) (pa_cons (pv 0) pa_nil)) (nomark _))
        (pss_one (ps_ret (pe_ix ix_list (pv 0) (pv 1) (fun _ _ => rfl)))) pss_nil) (pss_one (ps_ret pe_int)), ?_⟩
    refine ⟨.int j, rfl, .ref a, rfl, a, _, rfl, .inl hS, _, _, rfl, rfl, _, rfl, ite2 (fun c => ?_) (fun c => ?_)⟩
    · have c := of_decide_eq_true c
      rw [List.length_map] at c
      have hj : j < ns.length := by omega
      refine ⟨.ref a, rfl, .int j, rfl, a, _, j, .int ns[j], rfl, rfl, hS, atI_nat (by rw [List.getElem?_map, List.getElem?_eq_getElem hj] <;> rfl), q _⟩
    · exact q _

def spBox (K : PySem.W.Frag) : Sp := fun vs H Q _ => ∃ (a : Addr) (ns : List Int) (k : Nat), vs = [.ref a, .int k] ∧ SqL K H a (ns.map V.int) ∧ k ≤ 100 ∧ ∀ (H' : Hp) (bx : Addr), Same H H' → H bx = none → Box H' bx 0 → Q (.ref bx) H'
theorem okBox {f : Addr} {fd : FuncData} {k : Nat} (F : Fun K "_law_box" "_law_box" sLBox f fd) (T : Mg mg) (DC : Dn P w K mg base "_law_cell_at" k (spCellAt K)) : FnOk P w K mg base CX0 (k + 1) f fd ["_law_script", "_law_k"] (spBox K) := by
  refine F.ok scLBox (fun vs H Q E h => ?_) (fun cdv A outer s H vs Q E hr h => ?_)
  · obtain ⟨a, ns, j, rfl, _⟩ := h
    rfl
  · obtain ⟨a, ns, j, rfl, hS, hj, q⟩ := h
    have absP : ∀ {X : Cx} , CallR X (.builtin "abs") (fun xs H Q => ∃ i, xs = [.int i] ∧ Q (.int (if i < 0 then -i else i)) H) := fun {X} => call_abs
    refine ⟨_, pss_cons (ps_set (i := 2) scLBox.nd rfl (.inl rfl) (pe_dn DC hr (by rfl) (pa_cons (pv 0) (pa_cons (pv 1) pa_nil))))
      (pss_one (ps_ret (pe_lst (pa_cons (pe_op op_mul (pe_callB call_abs (by rfl) T.abs (by decide +kernel) (pa_cons (pv 2) pa_nil)) (pe_callTy call_int1 (by rfl) T.int (by decide +kernel) (pa_cons (pe_cmpR op_ge (pe_callB call_abs (by rfl) T.abs (by decide +kernel) (pa_cons (pv 2) pa_nil)) (pe_op op_pow pe_int pe_int) (nomark _)) pa_nil)))
        (pa_cons (pe_op op_add (pe_op op_add (pe_op op_mod (pv 2) pe_int) (pe_op op_mul pe_int (pv 1))) pe_int) (pa_cons pe_int pa_nil)))))), ?_⟩
    refine ⟨.ref a, rfl, .int j, rfl, a, ns, j, rfl, hS, fun x => ?_⟩
    refine ⟨.int x, rfl, x, rfl, .int x, rfl, x, rfl, 10, 18, rfl, rfl, ⟨by decide, by decide, by decide⟩, _, _, rfl, rfl, .inr ⟨_, rfl, _, _, rfl, rfl, .inr ?_, ?_⟩⟩
    · exact b01 _
    refine ⟨.int x, rfl, x, 2305843009213693951, rfl, rfl, (by decide : (0 : Int) < 2305843009213693951), .int j, rfl, 39373, j, rfl, rfl, .inl ⟨by decide, by decide⟩, _, _, rfl, rfl, _, _, rfl, rfl, (by show 3 ≤ sizeLine; decide), fun bx nbx => ?_⟩
    refine q _ bx (same_upd nbx) nbx ⟨_, _, _, upd_same, ?_, ⟨?_, ?_⟩, Int.le_refl _, Int.le_refl _⟩
    · refine Int.mul_nonneg ?_ ?_
      · split <;> omega
      · exact b01' _
    · omega
    · omega
end
end K8

/-! take, many, weight -/
namespace K8
open PySem PySem.Spec PyProof.Rows L2 K8S
section
variable {P : Program} {w : World} {K : PySem.W.Frag} {mg : Str → Option Value} {base : Heap}
def spTake : Sp := fun vs H Q _ => ∃ (bx : Addr) (k : Nat) (m : Int), vs = [.ref bx, .int m] ∧ Box H bx k ∧ k ≤ 1000000 ∧ (0 < m ∧ m < 1073741824) ∧ ∀ (H' : Hp) (r : Int), SameB bx H H' → Box H' bx (k + 1) → (0 ≤ r ∧ r < m) → Q (.int r) H'
theorem okTake {f : Addr} {fd : FuncData} {k : Nat} (F : Fun K "_law_take" "_law_take" sLTake f fd) (T : Mg mg) : FnOk P w K mg base CX0 (k + 1) f fd ["_law_box_here", "_law_many_here"] spTake := by
  refine F.ok scLTake (fun vs H Q E h => ?_) (fun cdv A outer s H vs Q E hr h => ?_)
  · obtain ⟨bx, j, m, rfl, _⟩ := h
    rfl
  · obtain ⟨bx, j, m, rfl, hB, hj, hm, q⟩ := h
    obtain ⟨x, y, z, eb, hx, hy, hz0, hzk⟩ := hB
    refine ⟨_, pss_cons (ps_if (pt_cmpR op_gt (pe_ix ix_list (pv 0) pe_int (fun _ _ => rfl)) pe_int (nomark _))
        (pss_cons (ps_set (i := 2) scLTake.nd rfl (.inl rfl) (pe_op op_mod (pe_ix ix_list (pv 0) pe_int (fun _ _ => rfl)) (pv 1)))
          (pss_cons (ps_asg (pe_op op_fdiv (pe_ix ix_list (pv 0) pe_int (fun _ _ => rfl)) (pv 1)) (pg_sub (pv 0) pe_int set_list)) (pss_one (ps_ret (pv 2))))) pss_nil)
      (pss_cons (ps_asg (pe_op op_add (pe_ix ix_list (pv 0) pe_int (fun _ _ => rfl)) pe_int) (pg_sub (pv 0) pe_int set_list))
      (pss_cons (ps_set (i := 3) scLTake.nd rfl (.inl rfl) (pe_op op_mod (pe_op op_mul (pe_op op_add (pe_ix ix_list (pv 0) pe_int (fun _ _ => rfl)) (pe_op op_mul pe_int (pe_ix ix_list (pv 0) pe_int (fun _ _ => rfl)))) (pe_op op_add pe_int (pe_ix ix_list (pv 0) pe_int (fun _ _ => rfl)))) pe_int))
      (pss_cons (ps_set (i := 4) scLTake.nd rfl (.inl rfl) (pe_op op_mod (pe_op op_mul (pe_op op_add (pv 3) (pe_ix ix_list (pv 0) pe_int (fun _ _ => rfl))) (pe_op op_add (pe_op op_mod (pv 3) pe_int) pe_int)) pe_int))
      (pss_one (ps_ret (pe_op op_mod (pe_op op_fdiv (pe_op op_mod (pe_op op_add (pe_op op_mul (pv 4) pe_int) (pv 3)) pe_int) pe_int) (pv 1))))))), ?_⟩
    refine ⟨.ref bx, rfl, bx, _, 0, .int x, rfl, rfl, sqL eb, atI_nat (j := 0) rfl, _, _, rfl, rfl, _, rfl, ite2 (fun c => ?_) (fun c => ?_)⟩
    · refine ⟨.ref bx, rfl, bx, _, 0, .int x, rfl, rfl, sqL eb, atI_nat (j := 0) rfl, .int m, rfl, x, m, rfl, rfl, hm.1, ?_⟩
      refine ⟨.ref bx, rfl, bx, _, 0, .int x, rfl, rfl, sqL eb, atI_nat (j := 0) rfl, .int m, rfl, x, m, rfl, rfl, hm, .ref bx, rfl, bx, _, 0, 0, rfl, rfl, eb, rfl, .int (x % m), rfl, ?_⟩
      refine q _ _ (SameB.refl.put _) ⟨x / m, y, z, upd_same, Int.ediv_nonneg hx (by omega), hy, hz0, by omega⟩ ⟨Int.emod_nonneg _ (by omega), Int.emod_lt_of_pos _ hm.1⟩
    · refine ⟨.ref bx, rfl, bx, _, 2, .int z, rfl, rfl, sqL eb, atI_nat (j := 2) rfl, z, 1, rfl, rfl, .ref bx, rfl, bx, _, 2, 2, rfl, rfl, eb, rfl, ?_⟩
      have e2 : (upd H bx (.lst ([V.int x, .int y, .int z].set 2 (.int (z + 1))))) bx = some (.lst [.int x, .int y, .int (z + 1)]) := upd_same
      have s2 : SameB bx H (upd H bx (.lst ([V.int x, .int y, .int z].set 2 (.int (z + 1))))) := SameB.refl.put _
      generalize upd H bx (.lst ([V.int x, .int y, .int z].set 2 (.int (z + 1)))) = H2 at e2 s2
      refine ⟨.ref bx, rfl, bx, _, 1, .int y, rfl, rfl, sqL e2, atI_nat (j := 1) rfl, .ref bx, rfl, bx, _, 2, .int (z + 1), rfl, rfl, sqL e2, atI_nat (j := 2) rfl, 48271, z + 1, rfl, rfl, .inl ⟨by decide, by decide⟩, y, _, rfl, rfl, ?_⟩
      refine ⟨.ref bx, rfl, bx, _, 2, .int (z + 1), rfl, rfl, sqL e2, atI_nat (j := 2) rfl, 39373, z + 1, rfl, rfl, _, _, rfl, rfl, .inr ⟨by omega, by omega⟩, _, _, rfl, rfl, (by decide : (0 : Int) < 2147483647), ?_⟩
      have ho : 0 ≤ ((y + 48271 * (z + 1)) * (39373 + (z + 1))) % 2147483647 ∧ ((y + 48271 * (z + 1)) * (39373 + (z + 1))) % 2147483647 < 2147483647 := ⟨Int.emod_nonneg _ (by decide), Int.emod_lt_of_pos _ (by decide)⟩
      obtain ⟨once, eo⟩ : ∃ o, o = ((y + 48271 * (z + 1)) * (39373 + (z + 1))) % 2147483647 := ⟨_, rfl⟩
      rw [← eo] at ho
      have eo2 : V.int once = (fun i j => V.int (i % j)) ((y + 48271 * (z + 1)) * (39373 + (z + 1))) 2147483647 := by rw [eo]
      rw [← eo2]
      refine ⟨.int once, rfl, .ref bx, rfl, bx, _, 2, .int (z + 1), rfl, rfl, sqL e2, atI_nat (j := 2) rfl, once, z + 1, rfl, rfl, .int once, rfl, once, 40009, rfl, rfl, (by decide : (0 : Int) < 40009), _, 7, rfl, rfl, _, _, rfl, rfl, .inl ⟨by omega, by omega⟩, _, _, rfl, rfl, (by decide : (0 : Int) < 2147483629), ?_⟩
      have ht : 0 ≤ ((once + (z + 1)) * (once % 40009 + 7)) % 2147483629 ∧ ((once + (z + 1)) * (once % 40009 + 7)) % 2147483629 < 2147483629 := ⟨Int.emod_nonneg _ (by decide), Int.emod_lt_of_pos _ (by decide)⟩
      obtain ⟨twice, et⟩ : ∃ o, o = ((once + (z + 1)) * (once % 40009 + 7)) % 2147483629 := ⟨_, rfl⟩
      rw [← et] at ht
      have et2 : V.int twice = (fun i j => V.int (i % j)) ((once + (z + 1)) * (once % 40009 + 7)) 2147483629 := by rw [et]
      rw [← et2]
      refine ⟨.int twice, rfl, twice, 48271, rfl, rfl, .inl ⟨by omega, by omega⟩, .int once, rfl, _, once, rfl, rfl, _, _, rfl, rfl, (by decide : (0 : Int) < 2147483587), _, _, rfl, rfl, ⟨by decide, by decide⟩, .int m, rfl, _, m, rfl, rfl, hm.1, ?_⟩
      exact q _ _ s2 ⟨x, y, z + 1, e2, hx, hy, by omega, by omega⟩ ⟨Int.emod_nonneg _ (by omega), Int.emod_lt_of_pos _ hm.1⟩

def spMany : Sp := fun vs H Q _ => ∃ (bx : Addr) (k : Nat), vs = [.ref bx, .int 2, .int 7, .int 30] ∧ Box H bx k ∧ k ≤ 100000 ∧ ∀ (H' : Hp) (n : Nat), SameB bx H H' → Box H' bx (k + 2) → 2 ≤ n → n ≤ 30 → Q (.int n) H'
theorem okMany {f : Addr} {fd : FuncData} {k : Nat} (F : Fun K "_law_many" "_law_many" sLMany f fd) (T : Mg mg) (DT : Dn P w K mg base "_law_take" k spTake) : FnOk P w K mg base CX0 (k + 1) f fd ["_law_box_here", "_law_least", "_law_few", "_law_most"] spMany := by
  refine F.ok scLMany (fun vs H Q E h => ?_) (fun cdv A outer s H vs Q E hr h => ?_)
  · obtain ⟨bx, j, rfl, _⟩ := h
    rfl
  · obtain ⟨bx, j, rfl, hB, hj, q⟩ := h
    refine ⟨_, pss_cons (ps_if (pt_cmpR op_eq (pe_dn DT hr (by rfl) (pa_cons (pv 0) (pa_cons pe_int pa_nil))) pe_int (nomark _))
        (pss_one (ps_ret (pe_op op_add pe_int (pe_dn DT hr (by rfl) (pa_cons (pv 0) (pa_cons (pe_op op_sub (pv 3) pe_int) pa_nil)))))) pss_nil)
      (pss_one (ps_ret (pe_op op_add (pv 1) (pe_dn DT hr (by rfl) (pa_cons (pv 0) (pa_cons (pe_op op_add (pe_op op_sub (pv 2) (pv 1)) pe_int) pa_nil)))))), ?_⟩
    refine ⟨.ref bx, rfl, bx, j, 8, rfl, hB, by omega, ⟨by decide, by decide⟩, fun H1 r1 s1 hB1 hr1 => ⟨rfl, _, rfl, ite2 (fun c => ?_) (fun c => ?_)⟩⟩
    · refine ⟨.ref bx, rfl, .int 30, rfl, 30, 6, rfl, rfl, bx, j + 1, 24, rfl, hB1, by omega, ⟨by decide, by decide⟩, fun H2 r2 s2 hB2 hr2 => ⟨7, r2, rfl, rfl, ?_⟩⟩
      obtain ⟨i, ei, hi⟩ := nat_of (n := 24) hr2
      subst ei
      have := q H2 (7 + i) (s1.trans s2) hB2 (by omega) (by omega)
      exact this
    · refine ⟨.int 2, rfl, .ref bx, rfl, .int 7, rfl, .int 2, rfl, 7, 2, rfl, rfl, 7 - 2, 1, rfl, rfl, bx, j + 1, 7 - 2 + 1, rfl, hB1, by omega, ⟨by decide, by decide⟩, fun H2 r2 s2 hB2 hr2 => ⟨2, r2, rfl, rfl, ?_⟩⟩
      obtain ⟨i, ei, hi⟩ := nat_of (n := 6) hr2
      subst ei
      have := q H2 (2 + i) (s1.trans s2) hB2 (by omega) (by omega)
      exact this

def spWeight : Sp := fun vs H Q _ => ∃ (bx : Addr) (k : Nat) (h : Int), vs = [.ref bx, .int h] ∧ Box H bx k ∧ k ≤ 100000 ∧ (0 ≤ h ∧ h < 4) ∧ ∀ (H' : Hp) (r : Int), SameB bx H H' → Box H' bx (k + 2) → 0 ≤ r → Q (.int r) H'
theorem okWeight {f : Addr} {fd : FuncData} {k : Nat} (F : Fun K "_law_weight" "_law_weight" sLWeight f fd) (T : Mg mg) (DT : Dn P w K mg base "_law_take" k spTake) : FnOk P w K mg base CX0 (k + 1) f fd ["_law_box_here", "_law_heavy"] spWeight := by
  refine F.ok scLWeight (fun vs H Q E h => ?_) (fun cdv A outer s H vs Q E hr h => ?_)
  · obtain ⟨bx, j, hh, rfl, _⟩ := h
    rfl
  · obtain ⟨bx, j, hh, rfl, hB, hj, hhr, q⟩ := h
    refine ⟨_, pss_one (ps_ret (pe_op op_add pe_int (pe_dn DT hr (by rfl) (pa_cons (pv 0) (pa_cons (pe_ix ix_list (pe_lst (pa_cons pe_int (pa_cons pe_int (pa_cons pe_int (pa_cons
      (pe_ix ix_list (pe_lst (pa_cons pe_int (pa_cons pe_int (pa_cons (pe_op op_pow pe_int pe_int) pa_nil)))) (pe_dn DT hr (by rfl) (pa_cons (pv 0) (pa_cons pe_int pa_nil))) (fun _ _ => rfl)) pa_nil))))) (pv 1) (fun _ _ => rfl)) pa_nil))))), ?_⟩
    refine ⟨.ref bx, rfl, 10, 9, rfl, rfl, ⟨by decide, by decide, by decide⟩, (by show 3 ≤ sizeLine; decide), fun u nu => ?_⟩
    have s1 : Same H (upd H u (.lst [.int 10, .int 100, .int (10 ^ (9 : Int).toNat)])) := same_upd nu
    have hu := hB.ne nu
    refine ⟨.ref bx, rfl, bx, j, 3, rfl, hB.same s1, by omega, ⟨by decide, by decide⟩, fun H2 r2 s2 hB2 hr2 => ?_⟩
    have eu2 := s2 _ _ hu upd_same
    have g : ∃ m : Int, atI [V.int 10, .int 100, .int (10 ^ (9 : Int).toNat)] r2 = some (.int m) ∧ 0 < m ∧ m < 1073741824 := by
      have : r2 = 0 ∨ r2 = 1 ∨ r2 = 2 := by omega
      rcases this with e | e | e <;> subst e
      · exact ⟨10, rfl, by decide, by decide⟩
      · exact ⟨100, rfl, by decide, by decide⟩
      · exact ⟨1000000000, rfl, by decide, by decide⟩
    obtain ⟨m, em, hm⟩ := g
    refine ⟨u, _, r2, .int m, rfl, rfl, sqL eu2, em, (by show 4 ≤ sizeLine; decide), fun v nv => ?_⟩
    have s3 := same_upd (o := .lst [.int 1, .int 3, .int 9, .int m]) nv
    have g2 : ∃ m2 : Int, atI [V.int 1, .int 3, .int 9, .int m] hh = some (.int m2) ∧ 0 < m2 ∧ m2 < 1073741824 := by
      have : hh = 0 ∨ hh = 1 ∨ hh = 2 ∨ hh = 3 := by omega
      rcases this with e | e | e | e <;> subst e
      · exact ⟨1, rfl, by decide, by decide⟩
      · exact ⟨3, rfl, by decide, by decide⟩
      · exact ⟨9, rfl, by decide, by decide⟩
      · exact ⟨m, rfl, hm⟩
    obtain ⟨m2, em2, hm2⟩ := g2
    refine ⟨.int hh, rfl, v, _, hh, .int m2, rfl, rfl, sqL upd_same, em2, bx, j + 1, m2, rfl, hB2.same s3, by omega, hm2, fun H4 r4 s4 hB4 hr4 => ⟨1, r4, rfl, rfl, ?_⟩⟩
    exact q H4 _ ((SameB.of s1).trans (s2.trans ((SameB.of s3).trans s4))) hB4 (by omega)
end
end K8

/-! the law's web -/
namespace K8
open PySem PySem.Spec PyProof.Rows L2 K8S
/-- a dict of ties -/
structure Dws (n : Nat) (kvs : List (List Key × V)) (ks : List (Int × Int)) (c : Nat) : Prop where
  wt : Wts kvs ks
  rg : ∀ p ∈ ks, (0 ≤ p.1 ∧ p.1 < (n : Int)) ∧ (0 ≤ p.2 ∧ p.2 < (n : Int)) ∧ 0 ≤ gk kvs p
  few : ks.length ≤ c
theorem Dws.set {n : Nat} {kvs : List (List Key × V)} {ks : List (Int × Int)} {c : Nat} (h : Dws n kvs ks c) {p : Int × Int} (h1 : 0 ≤ p.1 ∧ p.1 < (n : Int)) (h2 : 0 ≤ p.2 ∧ p.2 < (n : Int)) {m : Int} (hm : 0 ≤ m) :
    ∃ ks', Dws n (putK kvs (ky p) (.int m)) ks' (c + 1) := by
  obtain ⟨ks', a, b, d, _⟩ := h.wt.set p m
  refine ⟨ks', a, fun q hq => ?_, Nat.le_trans b (Nat.succ_le_succ h.few)⟩
  rw [gk_put]
  by_cases e : q = p
  · rw [e, if_pos rfl]
    exact ⟨h1, h2, hm⟩
  · rw [if_neg e]
    exact h.rg q (((d q).mp hq).resolve_right e)
theorem Dws.more {n : Nat} {kvs : List (List Key × V)} {ks : List (Int × Int)} {c d : Nat} (h : Dws n kvs ks c) (l : c ≤ d) : Dws n kvs ks d := ⟨h.wt, h.rg, Nat.le_trans h.few l⟩
/-- what is new since H is not among what H knew -/
theorem SameB.upd {D d : Addr} {H H' : Hp} (h : SameB D H H') (n : H d = none) (o : HO) : SameB D H (upd H' d o) := fun a x na e => by
  rw [upd_ne (ne_of_none e n)]
  exact h a x na e
section
variable {P : Program} {w : World} {K : PySem.W.Frag} {mg : Str → Option Value} {base : Heap}
def spLWeb : Sp := fun vs H Q _ => ∃ (bx : Addr) (k n : Nat), vs = [.ref bx, .int n] ∧ Box H bx k ∧ k ≤ 1000 ∧ 2 ≤ n ∧ n ≤ 30 ∧
  ∀ (H' : Hp) (p : Addr) (ts : List (Addr × Tie)), SameB bx H H' → Box H' bx (k + 1000) → WebAt H' p n ts → WebR n (vals ts) → ts.length ≤ 90 → Q (.ref p) H'
theorem okLWeb {f : Addr} {fd : FuncData} {k : Nat} (F : Fun K "_law_web" "_law_web" sLWeb f fd) (T : Mg mg) (DT : Dn P w K mg base "_law_take" k spTake) (DG : Dn P w K mg base "_law_weight" k spWeight) : FnOk P w K mg base CX0 (k + 1) f fd ["_law_box_here", "_law_many_here"] spLWeb := by
  refine F.ok scLWeb (fun vs H Q E h => ?_) (fun cdv A outer s H vs Q E hr h => ?_)
  · obtain ⟨bx, j, n, rfl, _⟩ := h
    rfl
  · obtain ⟨bx, j, n, rfl, hB, hj, hn2, hn, q⟩ := h
    refine ⟨_, pss_cons (ps_set (i := 2) scLWeb.nd rfl (.inl rfl) (pe_dn DT hr (by rfl) (pa_cons (pv 0) (pa_cons pe_int pa_nil))))
      (pss_cons (ps_set (i := 3) scLWeb.nd rfl (.inr rfl) pe_dnewT)
      (pss_cons (ps_for PassesOwn.never rfl (pi_range2 (by rfl) T.range (pa_cons pe_int (pa_cons (pv 1) pa_nil))) (pg_name (i := 4) scLWeb.nd rfl (.inl rfl))
        (pss_one (ps_if (pt_cmpR op_gt (pe_dn DT hr (by rfl) (pa_cons (pv 0) (pa_cons pe_int pa_nil))) pe_int (nomark _))
          (pss_one (ps_dput (hu_of hr) (pv 3) (pe_tup (pa_cons (pe_dn DT hr (by rfl) (pa_cons (pv 0) (pa_cons (pv 4) pa_nil))) (pa_cons (pv 4) pa_nil))) (pe_dn DG hr (by rfl) (pa_cons (pv 0) (pa_cons (pv 2) pa_nil))) rfl)) pss_nil)))
      (pss_cons (ps_for PassesOwn.never rfl (pi_range1 (by rfl) T.range (pa_cons (pe_callB (call_min2 rfl) (by rfl) T.min (by decide +kernel) (pa_cons (pe_dn DT hr (by rfl) (pa_cons (pv 0) (pa_cons (pe_op op_add (pe_op op_mul pe_int (pv 1)) pe_int) pa_nil))) (pa_cons (pe_op op_sub pe_int (pv 1)) pa_nil))) pa_nil)) (pg_name (i := 5) scLWeb.nd rfl (.inl rfl))
        (pss_cons (ps_par (i := 6) (j := 7) rfl scLWeb.nd rfl rfl (by decide) rfl rfl (pa_cons (pe_dn DT hr (by rfl) (pa_cons (pv 0) (pa_cons (pv 1) pa_nil))) (pa_cons (pe_dn DT hr (by rfl) (pa_cons (pv 0) (pa_cons (pv 1) pa_nil))) pa_nil)) rfl)
          (pss_one (ps_if (pt_cmpR op_ne (pv 6) (pv 7) (nomark _))
            (pss_one (ps_dput (hu_of hr) (pv 3) (pe_tup (pa_cons (pe_callB (call_min2 rfl) (by rfl) T.min (by decide +kernel) (pa_cons (pv 6) (pa_cons (pv 7) pa_nil))) (pa_cons (pe_callB (call_max2 rfl) (by rfl) T.max (by decide +kernel) (pa_cons (pv 6) (pa_cons (pv 7) pa_nil))) pa_nil))) (pe_dn DG hr (by rfl) (pa_cons (pv 0) (pa_cons (pv 2) pa_nil))) rfl)) pss_nil))))
      (pss_one (ps_ret (pe_tup (pa_cons (pv 1) (pa_cons (pe_callTy call_tuple_of (by rfl) T.tuple (by decide +kernel) (pa_cons
        (pe_lc (own := [("_law_pair", 8)]) (g := gName 8) (tt := tYes) rfl scLWeb.nd (pi_list (pe_callB (cr_sortDT rfl) (by rfl) T.sorted (by decide +kernel) (pa_cons (pv 3) pa_nil))) (blkOk_by (N := ["_law_box_here", "_law_many_here", "_law_heavy", "_law_ties", "_law_place", "_law_turn", "_law_one", "_law_other", "_law_pair"]) (sc := defScope sLWeb) (by decide +kernel))
          (fun _ _ _ _ _ => pg_name (i := 8) scLWeb.nd rfl (.inl rfl)) (fun _ _ _ _ _ => pts_nil) (fun _ _ _ _ _ => pe_op (r := rCatT K) op_catT (pv 8) (pe_tup (pa_cons (pe_dget (hu_of hr) (pv 3) (pv 8) (fun _ _ => rfl)) pa_nil)))) pa_nil)) pa_nil)))))))), ?_⟩
    refine ⟨.ref bx, rfl, bx, j, 4, rfl, hB, by omega, ⟨by decide, by decide⟩, fun H1 hv s1 hB1 hhv => ?_⟩
    refine fun d nd1 => ?_
    have hdb : d ≠ bx := hB1.ne nd1
    have nd0 : H d = none := by
      cases e : H d with
      | none => rfl
      | some o => rw [s1 _ _ hdb e] at nd1; cases nd1
    have s2 := s1.upd nd0 (.dT [])
    have hB2 : Box (upd H1 d (.dT [])) bx (j + 1) := hB1.same (same_upd nd1)
    refine ⟨.int n, rfl, 1, n, rfl, ⟨by decide, by decide, by omega, by omega⟩, ?_⟩
    refine for_range (fun i σ H4 => ∃ (y4 : Option V) (kvs : List (List Key × V)) (ks : List (Int × Int)), σ = [some (.ref bx), some (.int n), some (.int hv), some (.ref d), y4, none, none, none, none] ∧ SameB bx H H4 ∧ Box H4 bx (j + 1 + 4 * i) ∧ H4 d = some (.dT kvs) ∧ Dws n kvs ks i)
      ⟨none, [], [], rfl, s2, hB2, upd_same, .nil, (fun _ z => by cases z), Nat.le_refl _⟩ (fun i σ H4 hi p => ?_) (fun σ H4 p => ?_)
    · obtain ⟨y4, kvs, ks, rfl, s4, hB4, ed, hk⟩ := p
      have hi' : (1 + (i : Int)) < n := by omega
      refine ⟨.ref bx, rfl, bx, _, 9, rfl, hB4, by omega, ⟨by decide, by decide⟩, fun H5 r5 s5 hB5 hr5 => ⟨_, _, rfl, rfl, _, rfl, ite2 (fun c => ?_) (fun c => ?_)⟩⟩
      · refine ⟨.ref bx, rfl, .int hv, rfl, bx, _, hv, rfl, hB5, by omega, hhv, fun H6 r6 s6 hB6 hr6 => ?_⟩
        refine ⟨.ref d, rfl, .ref bx, rfl, .int (1 + i), rfl, bx, _, 1 + i, rfl, hB6, by omega, ⟨by omega, by omega⟩, fun H7 r7 s7 hB7 hr7 => ?_⟩
        have s47 := s5.trans (s6.trans s7)
        have ed7 := s47 _ _ hdb ed
        refine ⟨.int (1 + i), rfl, (by show 2 ≤ sizeLine; decide), fun u nu => ?_⟩
        have s8 : Same H7 (upd H7 u (.tup [.int r7, .int (1 + i)])) := same_upd nu
        obtain ⟨ks', hk'⟩ := hk.set (p := (r7, 1 + i)) ⟨hr7.1, by show r7 < n; omega⟩ ⟨by show (0 : Int) ≤ 1 + i; omega, hi'⟩ hr6
        refine ⟨d, _, rfl, DPut.t (k := ky (r7, 1 + i)) (s8 _ _ ed7) upd_same (by rw [hk.wt.len, sizeLine_eq]; have := hk.few; omega), ?_⟩
        refine ⟨_, _, ks', rfl, (((s4.trans s47).trans (.of s8)).upd nd0 _), ?_, upd_same, hk'⟩
        have hB8 := hB7.same s8
        obtain ⟨x, y, z, e, r1, r2, r3, r4⟩ := hB8
        exact ⟨x, y, z, by rw [upd_ne hdb.symm]; exact e, r1, r2, r3, by omega⟩
      · exact ⟨_, kvs, ks, rfl, s4.trans s5, hB5.more (by omega), s5 _ _ hdb ed, hk.more (by omega)⟩
    · obtain ⟨y4, kvs, ks, rfl, s4, hB4, ed, hk⟩ := p
      refine ⟨.ref bx, rfl, .int n, rfl, 2, n, rfl, rfl, .inl ⟨by decide, by decide⟩, _, 1, rfl, rfl, bx, _, _, rfl, hB4, by omega, ⟨by omega, by omega⟩, fun H5 r5 s5 hB5 hr5 => ?_⟩
      refine ⟨.int n, rfl, 91, n, rfl, rfl, r5, 91 - n, rfl, ?_⟩
      have hmn : (if (91 - (n : Int)) < r5 then (91 - (n : Int)) else r5) ≤ 91 - n ∧ 0 ≤ (if (91 - (n : Int)) < r5 then (91 - (n : Int)) else r5) := by
        split <;> constructor <;> omega
      generalize (if (91 - (n : Int)) < r5 then (91 - (n : Int)) else r5) = mn at hmn
      have ed5 := s5 _ _ hdb ed
      have s5' := s4.trans s5
      have hk5 : Dws n kvs ks (n - 1) := hk.more (by omega)
      have hB5' : Box H5 bx (j + 200) := hB5.more (by omega)
      refine ⟨mn, rfl, by omega, by omega, ?_⟩
      refine for_range (fun i σ H4 => ∃ (y5 y6 y7 : Option V) (kvs : List (List Key × V)) (ks : List (Int × Int)), σ = [some (.ref bx), some (.int n), some (.int hv), some (.ref d), y4, y5, y6, y7, none] ∧ SameB bx H H4 ∧ Box H4 bx (j + 200 + 4 * i) ∧ H4 d = some (.dT kvs) ∧ Dws n kvs ks (n - 1 + i))
        ⟨none, none, none, kvs, ks, rfl, s5', hB5', ed5, hk5⟩ (fun i σ H4 hi p => ?_) (fun σ H4 p => ?_)
      · obtain ⟨y5, y6, y7, kvs, ks, rfl, s4, hB4, ed, hk⟩ := p
        refine ⟨.ref bx, rfl, .int n, rfl, bx, _, n, rfl, hB4, by omega, ⟨by omega, by omega⟩, fun H5 one s5 hB5 hr5 => ?_⟩
        refine ⟨.ref bx, rfl, .int n, rfl, bx, _, n, rfl, hB5, by omega, ⟨by omega, by omega⟩, fun H6 other s6 hB6 hr6 => ⟨_, _, rfl, ?_⟩⟩
        refine ⟨.int one, rfl, .int other, rfl, rfl, _, rfl, ite2 (fun c => ?_) (fun c => ?_)⟩
        · refine ⟨.ref bx, rfl, .int hv, rfl, bx, _, hv, rfl, hB6, by omega, hhv, fun H7 r7 s7 hB7 hr7 => ?_⟩
          have s47 := s5.trans (s6.trans s7)
          have ed7 := s47 _ _ hdb ed
          refine ⟨.ref d, rfl, .int one, rfl, .int other, rfl, one, other, rfl, .int one, rfl, .int other, rfl, one, other, rfl, ?_⟩
          have hmn2 : 0 ≤ (if other < one then other else one) ∧ (if other < one then other else one) < n := by split <;> omega
          have hmx2 : 0 ≤ (if other > one then other else one) ∧ (if other > one then other else one) < n := by split <;> omega
          generalize (if other < one then other else one) = lo at hmn2
          generalize (if other > one then other else one) = hi' at hmx2
          refine ⟨(by show 2 ≤ sizeLine; decide), fun u nu => ?_⟩
          have s8 : Same H7 (upd H7 u (.tup [.int lo, .int hi'])) := same_upd nu
          obtain ⟨ks', hk'⟩ := hk.set (p := (lo, hi')) hmn2 hmx2 hr7
          refine ⟨d, _, rfl, DPut.t (k := ky (lo, hi')) (s8 _ _ ed7) upd_same (by rw [hk.wt.len, sizeLine_eq]; have := hk.few; omega), ?_⟩
          refine ⟨_, _, _, _, ks', rfl, (((s4.trans s47).trans (.of s8)).upd nd0 _), ?_, upd_same, hk'⟩
          have hB8 := hB7.same s8
          obtain ⟨x, y, z, e, r1, r2, r3, r4⟩ := hB8
          exact ⟨x, y, z, by rw [upd_ne hdb.symm]; exact e, r1, r2, r3, by omega⟩
        · exact ⟨_, _, _, kvs, ks, rfl, s4.trans (s5.trans s6), hB6.more (by omega), s6 _ _ hdb (s5 _ _ hdb ed), hk.more (by omega)⟩
      · obtain ⟨y5, y6, y7, kvs, ks, rfl, s4, hB4, ed, hk⟩ := p
        have hkf : ks.length ≤ 90 := by have := hk.few; omega
        have hrg := hk.rg
        have hk := hk.wt
        have hB4' : Box H4 bx (j + 1000) := hB4.more (by omega)
        refine ⟨.int n, rfl, ?_⟩
        refine ⟨.ref d, rfl, d, kvs, ks.map fun p => [p.1, p.2], rfl, .inl ed, by rw [hk.keys, List.map_map] <;> rfl, ?_, fun p bs np pm hb => ?_⟩
        · intro l hl
          obtain ⟨p, _, rfl⟩ := List.mem_map.mp hl
          intro z
          cases z
        have s5 : Same H4 (upd H4 p (.lst (refs bs))) := same_upd np
        have ep5 : (upd H4 p (.lst (refs bs))) p = some (.lst (refs bs)) := upd_same
        refine ⟨p, rfl, ⟨refs bs, sqL ep5⟩, ?_⟩
        show ∀ D, (upd H4 p (.lst (refs bs))) D = none → _
        have hb5 : ∀ b ∈ bs, (upd H4 p (.lst (refs bs))) b.1 = some (.tup (b.2.map V.int)) := fun b m => s5 _ _ (hb b m)
        have ed5 := s5 _ _ ed
        have hbl : bs.length = ks.length := by
          have := pm.length_eq
          rwa [List.length_map, List.length_map] at this
        generalize upd H4 p (.lst (refs bs)) = H5 at s5 ep5 hb5 ed5
        refine fun D nD => ?_
        refine lc_it (walk_list (K := K) (a := p) (xs := refs bs)) (LcP H5 D fun j out H6 => ∃ rows : List (Addr × Tie), out = refs rows ∧ (∀ r ∈ rows, H6 r.1 = some (.tup (tieV r.2))) ∧ ∀ r ∈ rows, prOf r.2 ∈ ks ∧ r.2.2.2 = gk kvs (prOf r.2))
          (LcP.start nD ⟨[], rfl, (fun _ z => by cases z), fun _ z => by cases z⟩) (fun j H6 _ p6 => ?_) (fun j x H6 H7 hj p6 y => ?_) (fun H6 p6 => ?_)
        · obtain ⟨out, _, s6, _⟩ := p6
          exact s6.seq (sqL ep5)
        · obtain ⟨out, hl, s6, e6, rows, rfl, hr6, hg⟩ := p6
          obtain ⟨rfl, hx⟩ := y
          obtain ⟨b, hbj, rfl⟩ := refs_at hx
          have hbm := List.mem_of_getElem? hbj
          obtain ⟨pr, hpr, epr⟩ := List.mem_map.mp (pm.mem_iff.mp (List.mem_map.mpr ⟨b, hbm, rfl⟩))
          have eb6 : H7 b.1 = some (.tup [.int pr.1, .int pr.2]) := by
            have e1 := s6 _ _ (hb5 b hbm)
            rw [← epr] at e1
            exact e1
          refine ⟨rfl, .ref b.1, rfl, .ref d, rfl, .ref b.1, rfl, d, .int (gk kvs pr), rfl, ?_, (by show 1 ≤ sizeLine; decide), fun u nu => ?_⟩
          · rw [← hk.vok pr hpr]
            exact DGet.t (k := ky pr) (s6 _ _ ed5) eb6
          have s7 : Same H7 (upd H7 u (.tup [.int (gk kvs pr)])) := same_upd nu
          refine ⟨b.1, u, [.int pr.1, .int pr.2], [.int (gk kvs pr)], rfl, rfl, sqT (s7 _ _ eb6), sqT upd_same, (fun z => by cases z), (by show 3 ≤ sizeLine; decide), (fun z => by cases z), fun _ t nt => ?_⟩
          have s8 : Same (upd H7 u (.tup [.int (gk kvs pr)])) (upd (upd H7 u (.tup [.int (gk kvs pr)])) t (.tup (tieV (pr.1, pr.2, gk kvs pr)))) := same_upd nt
          have s78 := s7.trans s8
          have htD : t ≠ D := (ne_of_none (s7 _ _ e6) nt).symm
          refine LcP.push nD hj (by rw [List.length_map]; omega) hl (s6.trans s78) (s78 _ _ e6) ⟨rows ++ [(t, pr.1, pr.2, gk kvs pr)], (refs_snoc rows (t, pr.1, pr.2, gk kvs pr)).symm, fun r hr' => ?_, fun r hr' => ?_⟩
          · rcases List.mem_append.mp hr' with q | q
            · have e := s78 _ _ (hr6 r q)
              rw [upd_ne (ne_of (hr6 r q) e6 (by intro z; cases z))]
              exact e
            · rw [List.mem_singleton.mp q]
              show upd _ D _ t = _
              rw [upd_ne htD, upd_same] <;> rfl
          · rcases List.mem_append.mp hr' with q | q
            · exact hg r q
            · rw [List.mem_singleton.mp q]
              exact ⟨hpr, rfl⟩
        · obtain ⟨out, hl, s6, e6, rows, rfl, hr6, hg⟩ := p6
          rw [List.length_map, List.length_map] at hl
          refine ⟨D, refs rows, rfl, .inl ⟨sqL e6, fun T' nT' => ⟨(by show 2 ≤ sizeLine; decide), fun pp npp => ?_⟩⟩⟩
          have s7 : Same H6 (upd H6 T' (.tup (refs rows))) := same_upd nT'
          have s8 := same_upd (o := .tup [.int n, .ref T']) npp
          have s78 := s7.trans s8
          have s48 := s5.trans (s6.trans s78)
          refine q _ pp rows (s4.trans (.of s48)) (hB4'.same s48) ⟨⟨T', upd_same, s8 _ _ upd_same⟩, fun r hr' => s78 _ _ (hr6 r hr')⟩ (fun t ht => ?_) (by omega)
          obtain ⟨r, hr', rfl⟩ := List.mem_map.mp ht
          obtain ⟨h1, h2⟩ := hg r hr'
          obtain ⟨g1, g2, g3⟩ := hrg _ h1
          exact ⟨g1, g2, by rw [h2]; exact g3⟩
end
end K8

/-! the law's posts -/
namespace K8
open PySem PySem.Spec PyProof.Rows L2 K8S
theorem Box.upd {H : Hp} {bx a : Addr} {k : Nat} (h : Box H bx k) (n : a ≠ bx) (o : HO) : Box (L2.upd H a o) bx k := by
  obtain ⟨x, y, z, e, r⟩ := h
  exact ⟨x, y, z, by rw [upd_ne n.symm]; exact e, r⟩
theorem seq_of {n : Nat} {x : Int} (h : 0 ≤ x ∧ x < n) : seqIndex? x n = some x.toNat := by
  unfold seqIndex?
  simp only []
  rw [if_neg (show ¬ x < 0 by omega), if_pos (by rw [Bool.and_eq_true]; exact ⟨decide_eq_true h.1, decide_eq_true h.2⟩)]
theorem erase_perm {α : Type} : ∀ {l : List α} {i : Nat} (h : i < l.length), (l[i] :: l.eraseIdx i).Perm l
  | x :: r, 0, _ => .refl _
  | x :: r, i + 1, h => by
    have h' : i < r.length := Nat.lt_of_succ_lt_succ h
    show (r[i] :: x :: r.eraseIdx i).Perm (x :: r)
    exact (List.Perm.swap _ _ _).trans ((erase_perm h').cons x)
theorem erase_map {α β : Type} (f : α → β) : ∀ (l : List α) (i : Nat), (l.map f).eraseIdx i = (l.eraseIdx i).map f
  | [], _ => rfl
  | _ :: _, 0 => rfl
  | x :: r, i + 1 => by
    show f x :: (r.map f).eraseIdx i = f x :: (r.eraseIdx i).map f
    rw [erase_map f r i]
/-- within a comprehension that makes the list at D, draws going on -/
def LcB (H1 : Hp) (bx D : Addr) (R : Nat → List V → Hp → Prop) (i : Nat) (H : Hp) : Prop := ∃ out, out.length ≤ i ∧ SameB bx H1 H ∧ H D = some (.lst out) ∧ R i out H
theorem LcB.start {H1 H2 : Hp} {bx D : Addr} {R : Nat → List V → Hp → Prop} (s : SameB bx H1 H2) (nD : H1 D = none) (r : R 0 [] (upd H2 D (.lst []))) : LcB H1 bx D R 0 (upd H2 D (.lst [])) := ⟨[], Nat.le_refl _, s.upd nD _, upd_same, r⟩
theorem LcB.push {H1 H4 : Hp} {bx D : Addr} {R : Nat → List V → Hp → Prop} {i n : Nat} {out : List V} {y : V} (nD : H1 D = none) (hi : i < n) (hn : n ≤ 100000) (hl : out.length ≤ i) (s : SameB bx H1 H4) (e : H4 D = some (.lst out)) (r : R (i + 1) (out ++ [y]) (upd H4 D (.lst (out ++ [y])))) :
    ∃ acc, H4 D = some (.lst acc) ∧ acc.length < sizeLine ∧ LcB H1 bx D R (i + 1) (upd H4 D (.lst (acc ++ [y]))) :=
  ⟨out, e, by rw [sizeLine_eq]; omega, out ++ [y], by rw [List.length_append]; exact Nat.succ_le_succ hl, s.upd nD _, upd_same, r⟩
theorem LcB.skip {H1 H4 : Hp} {bx D : Addr} {R : Nat → List V → Hp → Prop} {i : Nat} {out : List V} (hl : out.length ≤ i) (s : SameB bx H1 H4) (e : H4 D = some (.lst out)) (r : R (i + 1) out H4) : LcB H1 bx D R (i + 1) H4 := ⟨out, Nat.le_succ_of_le hl, s, e, r⟩
theorem rg_ints (n : Nat) : rgV 0 n = ((List.range n).map fun i : Nat => (i : Int)).map V.int := by
  unfold rgV
  rw [List.map_map, show ((n : Int) - 0).toNat = n by omega]
  refine List.map_congr_left fun i _ => ?_
  show V.int (0 + (i : Int)) = V.int i
  rw [Int.zero_add]
section
variable {P : Program} {w : World} {K : PySem.W.Frag} {mg : Str → Option Value} {base : Heap}
def spLPosts : Sp := fun vs H Q _ => ∃ (bx : Addr) (k n : Nat), vs = [.ref bx, .int n, .int 6] ∧ Box H bx k ∧ k ≤ 10000 ∧ 2 ≤ n ∧ n ≤ 30 ∧
  ∀ (H' : Hp) (p : Addr) (posts : List Int), SameB bx H H' → Box H' bx (k + 100) → p ≠ bx → H' p = some (.lst (posts.map V.int)) → posts.Nodup → (∀ x ∈ posts, 0 ≤ x ∧ x < (n : Int)) → posts ≠ [] → posts.length ≤ 30 → Q (.ref p) H'
theorem okLPosts {f : Addr} {fd : FuncData} {k : Nat} (F : Fun K "_law_posts" "_law_posts" sLPosts f fd) (T : Mg mg) (DT : Dn P w K mg base "_law_take" k spTake) : FnOk P w K mg base CX0 (k + 1) f fd ["_law_box_here", "_law_many_here", "_law_most"] spLPosts := by
  refine F.ok scLPosts (fun vs H Q E h => ?_) (fun cdv A outer s H vs Q E hr h => ?_)
  · obtain ⟨bx, j, n, rfl, _⟩ := h
    rfl
  · obtain ⟨bx, j, n, rfl, hB, hj, hn2, hn, q⟩ := h
    refine ⟨_, pss_cons (ps_set (i := 3) scLPosts.nd rfl (.inr rfl) (pe_listRg rfl (by rfl) T.list (prg_1 (by rfl) T.range (pv 1))))
      (pss_cons (ps_setLc (i := 4) (own := [("_law_turn", 5)]) (g := gName 5) (tt := tYes) (te := tBM K "list" rPopAt (tVar 3) (tCons (tCall spTake [] E0 (tCons (tVar 0) (tCons (tCB (rLenS K) (tCons (tVar 3) tNil)) tNil))) tNil)) rfl scLPosts.nd rfl rfl (sw_true rfl rfl rfl (by decide +kernel))
        (pi_range1 (by rfl) T.range (pa_cons (pe_callB (call_min2 rfl) (by rfl) T.min (by decide +kernel) (pa_cons (pv 1) (pa_cons (pe_op op_add pe_int (pe_dn DT hr (by rfl) (pa_cons (pv 0) (pa_cons (pe_op op_sub (pv 2) pe_int) pa_nil)))) pa_nil))) pa_nil))
        (blkOk_by (N := ["_law_box_here", "_law_many_here", "_law_most", "_law_some", "_law_found", "_law_turn"]) (sc := defScope sLPosts) (by decide +kernel))
        (fun _ _ _ _ _ => pg_name (i := 5) scLPosts.nd rfl (Or.inl rfl)) (fun _ _ _ _ _ => pts_nil)
        (fun _ _ _ _ _ => pe_bm PySem.F.plainAttrs_list PySem.F.slot_list_pop PySem.F.type_list_pop mt_popAt (pv 3) (pa_cons (pe_dn DT hr (by rfl) (pa_cons (pv 0) (pa_cons (pe_callB (r := rLenS K) cr_lenS (by rfl) T.len (by decide +kernel) (pa_cons (pv 3) pa_nil)) pa_nil))) pa_nil)))
      (pss_one (ps_ret (pe_callB cr_sorted (by rfl) T.sorted (by decide +kernel) (pa_cons (pv 4) pa_nil))))), ?_⟩
    refine ⟨.int n, rfl, n, rfl, .of_le (by decide) (by omega) (by decide) (by omega), fun a na => ?_⟩
    have hab := hB.ne na
    have s1 : Same H (upd H a (.lst (rgV 0 n))) := same_upd na
    refine ⟨.int n, rfl, .ref bx, rfl, .int 6, rfl, 6, 1, rfl, rfl, bx, j, 5, rfl, hB.same s1, by omega, ⟨by decide, by decide⟩, fun H2 r s2 hB2 hr2 => ⟨2, r, rfl, rfl, n, 2 + r, rfl, ?_⟩⟩
    have hmn : (if 2 + r < (n : Int) then 2 + r else (n : Int)) ≤ n ∧ 2 ≤ (if 2 + r < (n : Int) then 2 + r else (n : Int)) := by
      split <;> constructor <;> omega
    generalize (if 2 + r < (n : Int) then 2 + r else (n : Int)) = mn at hmn
    obtain ⟨c, ec, hc2, hcn⟩ : ∃ c : Nat, mn = c ∧ 2 ≤ c ∧ c ≤ n := ⟨mn.toNat, by omega, by omega, by omega⟩
    subst ec
    have s2' : SameB bx H H2 := (SameB.of s1).trans s2
    have ea2 : H2 a = some (.lst (((List.range n).map fun i : Nat => (i : Int)).map V.int)) := by
      rw [← rg_ints]
      exact s2 _ _ hab upd_same
    refine ⟨c, rfl, by omega, by omega, fun D nD2 => ?_⟩
    have hDb := hB2.ne nD2
    have hDa : D ≠ a := fun e => by rw [e, ea2] at nD2; cases nD2
    have nD : H D = none := by
      cases e : H D with
      | none => rfl
      | some o => rw [s2' _ _ hDb e] at nD2; cases nD2
    refine lc_it (walk_range (lo := 0) (n := c)) (LcB H bx D fun i out H6 => ∃ fs l : List Int, out = fs.map V.int ∧ H6 a = some (.lst (l.map V.int)) ∧ Box H6 bx (j + 1 + i) ∧ fs.length = i ∧ l.length + i = n ∧ (fs ++ l).Nodup ∧ ∀ x ∈ fs ++ l, 0 ≤ x ∧ x < (n : Int))
      (LcB.start s2' nD ⟨[], (List.range n).map fun i : Nat => (i : Int), rfl, by rw [upd_ne hDa.symm]; exact ea2, hB2.upd hDb _, rfl, by rw [List.length_map, List.length_range] <;> rfl, ?_, fun x hx => ?_⟩) (fun i H6 _ _ => trivial) (fun i x H6 H7 hi p y => ?_) (fun H6 p => ?_)
    · rw [List.nil_append]
      exact (List.nodup_range).map _ (fun x y hne e => hne (by omega))
    · rw [List.nil_append] at hx
      obtain ⟨i, hi, rfl⟩ := List.mem_map.mp hx
      have := List.mem_range.mp hi
      omega
    · obtain ⟨out, hl, s6, e6, fs, l, rfl, ea, hB6, hfl, hll, hnd, hrg⟩ := p
      obtain ⟨rfl, rfl⟩ := y
      have hlp : 0 < l.length := by omega
      refine ⟨rfl, .ref a, rfl, .inl ⟨rfl, _, sqL ea⟩, .ref bx, rfl, .ref a, rfl, a, _, rfl, .inl (sqL ea), ?_⟩
      rw [List.length_map]
      refine ⟨bx, _, l.length, rfl, hB6, by omega, ⟨by omega, by omega⟩, fun H8 t s8 hB8 ht => ?_⟩
      have ea8 := s8 _ _ hab ea
      have htl : t.toNat < l.length := by omega
      refine ⟨a, _, t, t.toNat, .int l[t.toNat], rfl, rfl, ea8, by omega, by omega, seq_of (by rw [List.length_map]; exact ht), by rw [List.getElem?_map, List.getElem?_eq_getElem htl] <;> rfl, ?_⟩
      have hpm : ((fs ++ [l[t.toNat]]) ++ l.eraseIdx t.toNat).Perm (fs ++ l) := by
        rw [List.append_assoc]
        exact List.Perm.append_left _ (erase_perm htl)
      refine LcB.push nD hi (by omega) hl ((s6.trans s8).upd na _) (by rw [upd_ne hDa]; exact s8 _ _ hDb e6) ⟨fs ++ [l[t.toNat]], l.eraseIdx t.toNat, by rw [List.map_append] <;> rfl, ?_, ?_, by rw [List.length_append, hfl] <;> rfl, ?_, hpm.nodup_iff.mpr hnd, fun x hx => hrg x (hpm.mem_iff.mp hx)⟩
      · rw [upd_ne hDa.symm, upd_same, erase_map]
      · exact ((hB8.upd hab _).upd hDb _).more (by omega)
      · rw [List.length_eraseIdx, if_pos htl]
        omega
    · obtain ⟨out, hl, s6, e6, fs, l, rfl, ea, hB6, hfl, hll, hnd, hrg⟩ := p
      refine ⟨.ref D, rfl, D, fs, rfl, sqL e6, by omega, fun ns p pm _ np => ?_⟩
      have hndf := (List.nodup_append.mp hnd).1
      refine q _ p ns (s6.trans (.of (same_upd np))) ((hB6.upd (hB6.ne np) _).more (by omega)) (hB6.ne np) upd_same (pm.nodup_iff.mpr hndf) (fun x hx => hrg x (List.mem_append_left _ (pm.mem_iff.mp hx))) (fun e => ?_) (by rw [pm.length_eq]; omega)
      have := pm.length_eq
      rw [e] at this
      simp at this
      omega
end
end K8

/-! with_posts, cut, owners, cut_of -/
namespace K8
open PySem PySem.Spec PyProof.Rows L2 K8S
theorem Box.cut {H : Hp} {bx a : Addr} {k : Nat} {ps : List (Addr × (Int × Int))} (h : Box H bx k) (n : H a = Option.some (HO.lst (refs ps))) : a ≠ bx := by
  obtain ⟨x, y, z, e, _⟩ := h
  intro q
  rw [q, e] at n
  cases ps with
  | nil => cases n
  | cons p r => cases n
theorem WebAt.sameB {H H' : Hp} {W bx : Addr} {n k : Nat} {ts : List (Addr × Tie)} (h : WebAt H W n ts) (B : Box H bx k) (s : SameB bx H H') : WebAt H' W n ts := by
  obtain ⟨T, a, b⟩ := h.ex
  exact ⟨⟨T, s _ _ (B.tup a) a, s _ _ (B.tup b) b⟩, fun p m => s _ _ (B.tup (h.each p m)) (h.each p m)⟩
theorem CutAt.sameB {H H' : Hp} {c bx : Addr} {k : Nat} {ps : List (Addr × (Int × Int))} (h : CutAt H c ps) (B : Box H bx k) (s : SameB bx H H') : CutAt H' c ps :=
  ⟨s _ _ (B.cut h.lst) h.lst, fun p m => s _ _ (B.tup (h.each p m)) (h.each p m)⟩
/-- a cut's places are places -/
def CutR (n : Nat) (ps : List (Int × Int)) : Prop := ∀ p ∈ ps, (0 ≤ p.1 ∧ p.1 < (n : Int)) ∧ (0 ≤ p.2 ∧ p.2 < (n : Int))
section
variable {P : Program} {w : World} {K : PySem.W.Frag} {mg : Str → Option Value} {base : Heap}
/-- the posts' list -/
structure PostsAt (H : Hp) (po bx : Addr) (n : Nat) (posts : List Int) : Prop where
  lst : H po = some (.lst (posts.map V.int))
  away : po ≠ bx
  nd : posts.Nodup
  rg : ∀ x ∈ posts, 0 ≤ x ∧ x < (n : Int)
  ne : posts ≠ []
  few : posts.length ≤ 30
theorem PostsAt.sameB {H H' : Hp} {po bx : Addr} {n : Nat} {posts : List Int} (h : PostsAt H po bx n posts) (s : SameB bx H H') : PostsAt H' po bx n posts := ⟨s _ _ h.away h.lst, h.away, h.nd, h.rg, h.ne, h.few⟩
def spLWithPosts : Sp := fun vs H Q _ => ∃ (bx : Addr) (k : Nat), vs = [.ref bx] ∧ Box H bx k ∧ k ≤ 100 ∧
  ∀ (H' : Hp) (p W po : Addr) (n : Nat) (ts : List (Addr × Tie)) (posts : List Int), SameB bx H H' → Box H' bx (k + 2000) → 2 ≤ n → n ≤ 30 → H' p = some (.tup [.ref W, .ref po]) → WebAt H' W n ts → WebR n (vals ts) → ts.length ≤ 90 → PostsAt H' po bx n posts → Q (.ref p) H'
theorem okLWithPosts {f : Addr} {fd : FuncData} {k : Nat} (F : Fun K "_law_with_posts" "_law_with_posts" sLWithPosts f fd) (T : Mg mg) (DM : Dn P w K mg base "_law_many" k spMany) (DW : Dn P w K mg base "_law_web" k spLWeb) (DP : Dn P w K mg base "_law_posts" k spLPosts) :
    FnOk P w K mg base CX0 (k + 1) f fd ["_law_box_here"] spLWithPosts := by
  refine F.ok scLWithPosts (fun vs H Q E h => ?_) (fun cdv A outer s H vs Q E hr h => ?_)
  · obtain ⟨bx, j, rfl, _⟩ := h
    rfl
  · obtain ⟨bx, j, rfl, hB, hj, q⟩ := h
    refine ⟨_, pss_cons (ps_set (i := 1) scLWithPosts.nd rfl (.inl rfl) (pe_dn DW hr (by rfl) (pa_cons (pv 0) (pa_cons (pe_dn DM hr (by rfl) (pa_cons (pv 0) (pa_cons pe_int (pa_cons pe_int (pa_cons pe_int pa_nil))))) pa_nil))))
      (pss_one (ps_ret (pe_tup (pa_cons (pv 1) (pa_cons (pe_dn DP hr (by rfl) (pa_cons (pv 0) (pa_cons (pe_ix ix_tup (pv 1) pe_int (fun _ _ => rfl)) (pa_cons pe_int pa_nil)))) pa_nil))))), ?_⟩
    refine ⟨.ref bx, rfl, .ref bx, rfl, bx, j, rfl, hB, by omega, fun H1 n s1 hB1 hn2 hn => ?_⟩
    refine ⟨bx, j + 2, n, rfl, hB1, by omega, hn2, hn, fun H2 W ts s2 hB2 hW hR ht => ?_⟩
    obtain ⟨t0, eW, _⟩ := hW.ex
    refine ⟨.ref W, rfl, .ref bx, rfl, .ref W, rfl, W, _, 0, .int n, rfl, rfl, sqT eW, atI_nat (j := 0) rfl, bx, _, n, rfl, hB2, by omega, hn2, hn, fun H3 po posts s3 hB3 hpb epo hnd hrg hne hfew => ?_⟩
    refine ⟨(by show 2 ≤ sizeLine; decide), fun p np => ?_⟩
    have s4 := same_upd (o := .tup [.ref W, .ref po]) np
    exact q _ p W po n ts posts (s1.trans (s2.trans (s3.trans (.of s4)))) ((hB3.same s4).more (by omega)) hn2 hn upd_same ((hW.sameB hB2 s3).same s4) hR ht ⟨s4 _ _ epo, hpb, hnd, hrg, hne, hfew⟩

def spLCut : Sp := fun vs H Q _ => ∃ (bx W : Addr) (k n : Nat) (ts : List (Addr × Tie)), vs = [.ref bx, .ref W] ∧ Box H bx k ∧ k ≤ 10000 ∧ WebAt H W n ts ∧ WebR n (vals ts) ∧ ts.length ≤ 90 ∧
  ∀ (H' : Hp) (p : Addr) (ps : List (Addr × (Int × Int))), SameB bx H H' → Box H' bx (k + 100) → CutAt H' p ps → CutR n (vals ps) → ps.length ≤ 90 → Q (.ref p) H'
theorem okLCut {f : Addr} {fd : FuncData} {k : Nat} (F : Fun K "_law_cut" "_law_cut" sLCut f fd) (T : Mg mg) (DT : Dn P w K mg base "_law_take" k spTake) : FnOk P w K mg base CX0 (k + 1) f fd ["_law_box_here", "_law_web_here"] spLCut := by
  refine F.ok scLCut (fun vs H Q E h => ?_) (fun cdv A outer s H vs Q E hr h => ?_)
  · obtain ⟨bx, W, j, n, ts, rfl, _⟩ := h
    rfl
  · obtain ⟨bx, W, j, n, ts, rfl, hB, hj, hW, hR, hz, q⟩ := h
    refine ⟨_, pss_cons (ps_set (i := 2) scLCut.nd rfl (.inr rfl) (pe_op op_add pe_int (pe_dn DT hr (by rfl) (pa_cons (pv 0) (pa_cons pe_int pa_nil)))))
      (pss_one (ps_ret (pe_lc (own := [("_law_tie", 3)]) (g := gName 3) rfl scLCut.nd (pi_tup (pe_ix ix_tup (pv 1) pe_int (fun _ _ => rfl))) (blkOk_by (N := ["_law_box_here", "_law_web_here", "_law_often", "_law_tie"]) (sc := defScope sLCut) (by decide +kernel))
        (fun _ _ _ _ _ => pg_name (i := 3) scLCut.nd rfl (Or.inl rfl)) (fun _ _ _ _ _ => pts_one (pt_cmpR op_eq (pe_dn DT hr (by rfl) (pa_cons (pv 0) (pa_cons (pv 2) pa_nil))) pe_int (nomark _)))
        (fun _ _ _ _ _ => pe_slice (r := rSlT K) sl_tup (pv 3) po_none (po_some pe_int))))), ?_⟩
    refine ⟨.ref bx, rfl, bx, j, 4, rfl, hB, by omega, ⟨by decide, by decide⟩, fun H1 r1 s1 hB1 hr1 => ⟨1, r1, rfl, rfl, ?_⟩⟩
    have hW1 := hW.sameB hB s1
    obtain ⟨t0, eW, eT⟩ := hW1.ex
    have htb := hB1.tup eT
    refine ⟨.ref W, rfl, W, _, 1, .ref t0, rfl, rfl, sqT eW, atI_nat (j := 1) rfl, t0, rfl, ⟨_, sqT eT⟩, fun D nD => ?_⟩
    have hDb := hB1.ne nD
    refine lc_it (walk_tup (K := K) (a := t0) (xs := refs ts)) (LcB H1 bx D fun i out H3 => Box H3 bx (j + 1 + i) ∧ ∃ ps : List (Addr × (Int × Int)), out = refs ps ∧ (∀ r ∈ ps, H3 r.1 = some (.tup (prV r.2))) ∧ CutR n (vals ps))
      (LcB.start .refl nD ⟨hB1.upd hDb _, [], rfl, (fun _ z => by cases z), fun _ z => by cases z⟩) (fun i H3 _ p => ?_) (fun i x H3 H4 hi p y => ?_) (fun H3 p => ?_)
    · obtain ⟨out, _, s3, _⟩ := p
      exact sqT (s3 _ _ htb eT)
    · obtain ⟨out, hl, s3, e3, hB3, ps, rfl, hr3, hcr⟩ := p
      obtain ⟨rfl, hx⟩ := y
      obtain ⟨t, ht, rfl⟩ := refs_at hx
      have htm := List.mem_of_getElem? ht
      have hv : (vals ts)[i]? = some t.2 := by rw [List.getElem?_map, ht] <;> rfl
      obtain ⟨ha, hb, _⟩ := hR t.2 (List.mem_of_getElem? hv)
      rw [List.length_map] at hi
      refine ⟨rfl, .ref bx, rfl, .int (1 + r1), rfl, bx, _, 1 + r1, rfl, hB3, by omega, ⟨by omega, by omega⟩, fun H5 r5 s5 hB5 hr5 => ⟨rfl, _, rfl, ite2 (fun c => ?_) (fun c => ?_)⟩⟩
      · have et5 : H5 t.1 = some (.tup (tieV t.2)) := (s3.trans s5) _ _ (hB1.tup (hW1.each t htm)) (hW1.each t htm)
        refine ⟨.ref t.1, rfl, 2, rfl, t.1, tieV t.2, rfl, sqT et5, (by show ¬ (0 = 0 ∧ 2 = 3); decide), fun u nu => ?_⟩
        have s6 : Same H5 (upd H5 u (.tup (prV (prOf t.2)))) := same_upd nu
        have e5 := s5 _ _ hDb e3
        have huD : u ≠ D := (ne_of_none e5 nu).symm
        refine LcB.push (n := 90) nD (by omega) (by omega) hl ((s3.trans s5).trans (.of s6)) (s6 _ _ e5) ⟨((hB5.same s6).upd hDb _).more (by omega), ps ++ [(u, prOf t.2)], (refs_snoc ps (u, prOf t.2)).symm, fun r hr' => ?_, fun p hp => ?_⟩
        · rcases List.mem_append.mp hr' with q | q
          · have e4 := s5 _ _ (hB3.tup (hr3 r q)) (hr3 r q)
            have e := s6 _ _ e4
            rw [upd_ne (ne_of (hr3 r q) e3 (by intro z; cases z))]
            exact e
          · rw [List.mem_singleton.mp q]
            show upd _ D _ u = _
            rw [upd_ne huD]
            exact upd_same
        · rw [show vals (ps ++ [(u, prOf t.2)]) = vals ps ++ [prOf t.2] from List.map_append] at hp
          rcases List.mem_append.mp hp with q | q
          · exact hcr p q
          · rw [List.mem_singleton.mp q]
            exact ⟨ha, hb⟩
      · refine LcB.skip hl (s3.trans s5) (s5 _ _ hDb e3) ⟨hB5.more (by omega), ps, rfl, fun r hr' => s5 _ _ (hB3.tup (hr3 r hr')) (hr3 r hr'), hcr⟩
    · obtain ⟨out, hl, s3, e3, hB3, ps, rfl, hr3, hcr⟩ := p
      rw [List.length_map] at hB3
      rw [List.length_map, List.length_map] at hl
      exact q H3 D ps (s1.trans s3) (hB3.more (by omega)) ⟨e3, hr3⟩ hcr (by omega)

def spLCutOf : Sp := fun vs H Q _ => ∃ (W O : Addr) (n : Nat) (ts : List (Addr × Tie)) (os : List Int), vs = [.ref W, .ref O] ∧ WebAt H W n ts ∧ WebR n (vals ts) ∧ ts.length ≤ 90 ∧ H O = some (.tup (os.map V.int)) ∧ os.length = n ∧
  ∀ (H' : Hp) (p : Addr) (ps : List (Addr × (Int × Int))), Same H H' → CutAt H' p ps → CutR n (vals ps) → ps.length ≤ 90 → Q (.ref p) H'
theorem okLCutOf {f : Addr} {fd : FuncData} {k : Nat} (F : Fun K "_law_cut_of" "_law_cut_of" sLCutOf f fd) (T : Mg mg) : FnOk P w K mg base CX0 (k + 1) f fd ["_law_web_here", "_law_owners_here"] spLCutOf := by
  refine F.ok scLCutOf (fun vs H Q E h => ?_) (fun cdv A outer s H vs Q E hr h => ?_)
  · obtain ⟨W, O, n, ts, os, rfl, _⟩ := h
    rfl
  · obtain ⟨W, O, n, ts, os, rfl, hW, hR, hz, hO, hon, q⟩ := h
    obtain ⟨t0, eW, eT⟩ := hW.ex
    refine ⟨_, pss_one (ps_ret (pe_lc (own := [("_law_tie", 2)]) (g := gName 2) rfl scLCutOf.nd (pi_tup (pe_ix ix_tup (pv 0) pe_int (fun _ _ => rfl))) (blkOk_by (N := ["_law_web_here", "_law_owners_here", "_law_tie"]) (sc := defScope sLCutOf) (by decide +kernel))
        (fun _ _ _ _ _ => pg_name (i := 2) scLCutOf.nd rfl (Or.inl rfl)) (fun _ _ _ _ _ => pts_one (pt_cmpR op_ne (pe_ix (r := rIxT K) ix_tup (pv 1) (pe_ix (r := rIxT K) ix_tup (pv 2) pe_int (fun _ _ => rfl)) (fun _ _ => rfl)) (pe_ix (r := rIxT K) ix_tup (pv 1) (pe_ix (r := rIxT K) ix_tup (pv 2) pe_int (fun _ _ => rfl)) (fun _ _ => rfl)) (nomark _)))
        (fun _ _ _ _ _ => pe_slice (r := rSlT K) sl_tup (pv 2) po_none (po_some pe_int)))), ?_⟩
    refine ⟨.ref W, rfl, W, _, 1, .ref t0, rfl, rfl, sqT eW, atI_nat (j := 1) rfl, t0, rfl, ⟨_, sqT eT⟩, fun D nD => ?_⟩
    refine lc_it (walk_tup (K := K) (a := t0) (xs := refs ts)) (LcP H D fun i out H3 => ∃ ps : List (Addr × (Int × Int)), out = refs ps ∧ (∀ r ∈ ps, H3 r.1 = some (.tup (prV r.2))) ∧ CutR n (vals ps))
      (LcP.start nD ⟨[], rfl, (fun _ z => by cases z), fun _ z => by cases z⟩) (fun i H3 _ p => ?_) (fun i x H3 H4 hi p y => ?_) (fun H3 p => ?_)
    · obtain ⟨out, _, s3, _⟩ := p
      exact Same.tup s3 (sqT eT)
    · obtain ⟨out, hl, s3, e3, ps, rfl, hr3, hcr⟩ := p
      obtain ⟨rfl, hx⟩ := y
      obtain ⟨t, ht, rfl⟩ := refs_at hx
      have htm := List.mem_of_getElem? ht
      have et := s3 _ _ (hW.each t htm)
      have hv : (vals ts)[i]? = some t.2 := by rw [List.getElem?_map, ht] <;> rfl
      obtain ⟨ha0, hb0, _⟩ := hR t.2 (List.mem_of_getElem? hv)
      obtain ⟨a, ea, ha⟩ := nat_of ha0
      obtain ⟨b, eb, hb⟩ := nat_of hb0
      have eN := s3 _ _ hO
      have ga : atI (os.map V.int) t.2.1 = some (.int (os[a]'(by omega))) := by
        rw [ea]
        exact atI_nat (by rw [List.getElem?_map, List.getElem?_eq_getElem (by omega)] <;> rfl)
      have gb : atI (os.map V.int) t.2.2.1 = some (.int (os[b]'(by omega))) := by
        rw [eb]
        exact atI_nat (by rw [List.getElem?_map, List.getElem?_eq_getElem (by omega)] <;> rfl)
      refine ⟨rfl, .ref O, rfl, .ref t.1, rfl, t.1, _, 0, .int t.2.1, rfl, rfl, sqT et, atI_nat (j := 0) rfl, O, _, t.2.1, _, rfl, rfl, sqT eN, ga, .ref O, rfl, .ref t.1, rfl, t.1, _, 1, .int t.2.2.1, rfl, rfl, sqT et, atI_nat (j := 1) rfl, O, _, t.2.2.1, _, rfl, rfl, sqT eN, gb, rfl, _, rfl, ite2 (fun c => ?_) (fun c => ?_)⟩
      · refine ⟨.ref t.1, rfl, 2, rfl, t.1, tieV t.2, rfl, sqT et, (by show ¬ (0 = 0 ∧ 2 = 3); decide), fun u nu => ?_⟩
        have s4 : Same H4 (upd H4 u (.tup (prV (prOf t.2)))) := same_upd nu
        have huD : u ≠ D := (ne_of_none e3 nu).symm
        refine LcP.push nD hi (by rw [List.length_map]; omega) hl (s3.trans s4) (s4 _ _ e3) ⟨ps ++ [(u, prOf t.2)], (refs_snoc ps (u, prOf t.2)).symm, fun r hr' => ?_, fun p hp => ?_⟩
        · rcases List.mem_append.mp hr' with q | q
          · have e := s4 _ _ (hr3 r q)
            rw [upd_ne (ne_of (hr3 r q) e3 (by intro z; cases z))]
            exact e
          · rw [List.mem_singleton.mp q]
            show upd _ D _ u = _
            rw [upd_ne huD]
            exact upd_same
        · rw [show vals (ps ++ [(u, prOf t.2)]) = vals ps ++ [prOf t.2] from List.map_append] at hp
          rcases List.mem_append.mp hp with q | q
          · exact hcr p q
          · rw [List.mem_singleton.mp q]
            exact ⟨ha0, hb0⟩
      · exact LcP.skip hl s3 e3 ⟨ps, rfl, hr3, hcr⟩
    · obtain ⟨out, hl, s3, e3, ps, rfl, hr3, hcr⟩ := p
      rw [List.length_map, List.length_map] at hl
      exact q H3 D ps s3 ⟨e3, hr3⟩ hcr (by omega)

def spLOwners : Sp := fun vs H Q _ => ∃ (bx W po : Addr) (k n : Nat) (ts : List (Addr × Tie)) (posts : List Int), vs = [.ref bx, .ref W, .ref po] ∧ Box H bx k ∧ k ≤ 10000 ∧ WebAt H W n ts ∧ n ≤ 30 ∧ PostsAt H po bx n posts ∧
  ∀ (H' : Hp) (p : Addr) (os : List Int), SameB bx H H' → Box H' bx (k + 100) → H' p = some (.tup (os.map V.int)) → os.length = n → Q (.ref p) H'
theorem okLOwners {f : Addr} {fd : FuncData} {k : Nat} (F : Fun K "_law_owners" "_law_owners" sLOwners f fd) (T : Mg mg) (DT : Dn P w K mg base "_law_take" k spTake) : FnOk P w K mg base CX0 (k + 1) f fd ["_law_box_here", "_law_web_here", "_law_posts_here"] spLOwners := by
  refine F.ok scLOwners (fun vs H Q E h => ?_) (fun cdv A outer s H vs Q E hr h => ?_)
  · obtain ⟨bx, W, po, j, n, ts, posts, rfl, _⟩ := h
    rfl
  · obtain ⟨bx, W, po, j, n, ts, posts, rfl, hB, hj, hW, hn, hP, q⟩ := h
    refine ⟨_, pss_cons (ps_set (i := 3) scLOwners.nd rfl (.inl rfl) (pe_op op_add pe_int (pe_dn DT hr (by rfl) (pa_cons (pv 0) (pa_cons pe_int pa_nil)))))
      (pss_cons (ps_set (i := 4) scLOwners.nd rfl (.inl rfl) (pe_ix ix_list (pv 2) (pe_dn DT hr (by rfl) (pa_cons (pv 0) (pa_cons (pe_callB (r := rLenS K) cr_lenS (by rfl) T.len (by decide +kernel) (pa_cons (pv 2) pa_nil)) pa_nil))) (fun _ _ => rfl)))
      (pss_cons (ps_set (i := 5) scLOwners.nd rfl (.inl rfl) (pe_lst pa_nil))
      (pss_cons (ps_for PassesOwn.never rfl (pi_range1 (by rfl) T.range (pa_cons (pe_ix ix_tup (pv 1) pe_int (fun _ _ => rfl)) pa_nil)) (pg_name (i := 6) scLOwners.nd rfl (.inl rfl))
        (pss_cons (ps_set (i := 7) scLOwners.nd rfl (.inl rfl) (pe_ix ix_list (pv 2) (pe_dn DT hr (by rfl) (pa_cons (pv 0) (pa_cons (pe_callB (r := rLenS K) cr_lenS (by rfl) T.len (by decide +kernel) (pa_cons (pv 2) pa_nil)) pa_nil))) (fun _ _ => rfl)))
          (pss_one (ps_expr (pe_bm PySem.F.plainAttrs_list PySem.F.slot_list_append PySem.F.type_list_append mt_append (pv 5) (pa_cons
            (pe_ifExp (pt_cmpR (r := rIn K false) op_in_seq (pv 6) (pv 2) (by with_unfolding_all rfl)) (pv 6)
              (pe_ix ix_list (pe_lst (pa_cons (pv 7) (pa_cons (pv 4) pa_nil))) (pe_callTy call_int1 (by rfl) T.int (by decide +kernel) (pa_cons (pe_cmpR op_gt (pe_dn DT hr (by rfl) (pa_cons (pv 0) (pa_cons (pv 3) pa_nil))) pe_int (nomark _)) pa_nil)) (fun _ _ => rfl))) pa_nil))))))
      (pss_one (ps_ret (pe_callTy call_tuple_of (by rfl) T.tuple (by decide +kernel) (pa_cons (pv 5) pa_nil))))))), ?_⟩
    have hpl : 0 < posts.length := List.length_pos_iff.mpr hP.ne
    have hpf := hP.few
    refine ⟨.ref bx, rfl, bx, j, 3, rfl, hB, by omega, ⟨by decide, by decide⟩, fun H1 r1 s1 hB1 hr1 => ⟨1, r1, rfl, rfl, ?_⟩⟩
    have hP1 := hP.sameB s1
    refine ⟨.ref po, rfl, .ref bx, rfl, .ref po, rfl, po, _, rfl, .inl (sqL hP1.lst), ?_⟩
    rw [List.length_map]
    refine ⟨bx, _, posts.length, rfl, hB1, by omega, ⟨by omega, by omega⟩, fun H2 r2 s2 hB2 hr2 => ?_⟩
    have hP2 := hP1.sameB s2
    have get : ∀ r : Int, (0 ≤ r ∧ r < posts.length) → ∃ v : Int, atI (posts.map V.int) r = some (.int v) := fun r h => by
      obtain ⟨i, ei, hi⟩ := nat_of h
      rw [ei]
      exact ⟨posts[i], atI_nat (by rw [List.getElem?_map, List.getElem?_eq_getElem hi] <;> rfl)⟩
    obtain ⟨one, e1⟩ := get r2 hr2
    refine ⟨po, _, r2, .int one, rfl, rfl, sqL hP2.lst, e1, Nat.zero_le _, fun D nD2 => ?_⟩
    have hDb := hB2.ne nD2
    have s12 := s1.trans s2
    have nD : H D = none := by
      cases e : H D with
      | none => rfl
      | some o => rw [s12 _ _ hDb e] at nD2; cases nD2
    have s3 := s12.upd nD (.lst [])
    have hW3 := hW.sameB hB s3
    obtain ⟨t0, eW, _⟩ := hW3.ex
    refine ⟨.ref W, rfl, W, _, 0, .int n, rfl, rfl, sqT eW, atI_nat (j := 0) rfl, n, rfl, by omega, by omega, ?_⟩
    refine for_range (fun i σ H4 => ∃ (y6 y7 : Option V) (os : List Int), σ = [some (.ref bx), some (.ref W), some (.ref po), some (.int (1 + r1)), some (.int one), some (.ref D), y6, y7] ∧ SameB bx H H4 ∧ Box H4 bx (j + 2 + 2 * i) ∧ H4 D = some (.lst (os.map V.int)) ∧ os.length = i)
      ⟨none, none, [], rfl, s3, hB2.upd hDb _, upd_same, rfl⟩ (fun i σ H4 hi p => ?_) (fun σ H4 p => ?_)
    · obtain ⟨y6, y7, os, rfl, s4, hB4, e4, hol⟩ := p
      have hP4 := hP.sameB s4
      have hi' : i < 30 := by omega
      refine ⟨.ref po, rfl, .ref bx, rfl, .ref po, rfl, po, _, rfl, .inl (sqL hP4.lst), ?_⟩
      rw [List.length_map]
      refine ⟨bx, _, posts.length, rfl, hB4, by omega, ⟨by omega, by omega⟩, fun H5 r5 s5 hB5 hr5 => ?_⟩
      have hP5 := hP4.sameB s5
      obtain ⟨oth, e5⟩ := get r5 hr5
      have eD5 := s5 _ _ hDb e4
      refine ⟨po, _, r5, .int oth, rfl, rfl, sqL hP5.lst, e5, .ref D, rfl, .inl ⟨rfl, _, sqL eD5⟩, ?_⟩
      have fin : ∀ (H6 : Hp) (v : Int), SameB bx H5 H6 → Box H6 bx (j + 2 + 2 * i + 2) → ∃ l xs y, V.ref D = .ref l ∧ [V.int v] = [y] ∧ H6 l = some (.lst xs) ∧ xs.length < sizeLine ∧
          ∃ (y6 y7 : Option V) (os : List Int), [some (.ref bx), some (.ref W), some (.ref po), some (.int (1 + r1)), some (.int one), some (.ref D), some (.int (0 + i)), some (.int oth)] = [some (.ref bx), some (.ref W), some (.ref po), some (.int (1 + r1)), some (.int one), some (.ref D), y6, y7] ∧ SameB bx H (upd H6 l (.lst (xs ++ [y]))) ∧ Box (upd H6 l (.lst (xs ++ [y]))) bx (j + 2 + 2 * (i + 1)) ∧ (upd H6 l (.lst (xs ++ [y]))) D = some (.lst (os.map V.int)) ∧ os.length = i + 1 := fun H6 v s6 hB6 => by
        refine ⟨D, os.map V.int, .int v, rfl, rfl, s6 _ _ hDb eD5, by rw [List.length_map, sizeLine_eq]; omega, _, _, os ++ [v], rfl, (s4.trans (s5.trans s6)).upd nD _, (hB6.upd hDb _).more (by omega), by rw [upd_same, List.map_append] <;> rfl, by rw [List.length_append, hol] <;> rfl⟩
      refine ⟨.int (0 + i), rfl, .ref po, rfl, po, posts.map V.int, rfl, .inl (sqL hP5.lst), rfl, flat_ints posts, _, rfl, ite2 (fun c => ?_) (fun c => ?_)⟩
      · exact ⟨.int (0 + i), rfl, fin H5 _ .refl (hB5.more (by omega))⟩
      · refine ⟨.int oth, rfl, .int one, rfl, (by show 2 ≤ sizeLine; decide), fun u nu => ?_⟩
        have s6 : Same H5 (upd H5 u (.lst [.int oth, .int one])) := same_upd nu
        have hub := hB5.ne nu
        refine ⟨.ref bx, rfl, .int (1 + r1), rfl, bx, _, 1 + r1, rfl, hB5.same s6, by omega, ⟨by omega, by omega⟩, fun H7 r7 s7 hB7 hr7 => ⟨_, _, rfl, rfl, .inr ⟨_, rfl, ?_⟩⟩⟩
        have eu7 := s7 _ _ hub upd_same
        have hs57 : SameB bx H5 H7 := (SameB.of s6).trans s7
        cases hb : decide ((0 : Int) < r7) with
        | true => exact ⟨u, _, 1, .int one, rfl, rfl, sqL eu7, atI_nat (j := 1) rfl, fin H7 _ hs57 (hB7.more (by omega))⟩
        | false => exact ⟨u, _, 0, .int oth, rfl, rfl, sqL eu7, atI_nat (j := 0) rfl, fin H7 _ hs57 (hB7.more (by omega))⟩
    · obtain ⟨y6, y7, os, rfl, s4, hB4, e4, hol⟩ := p
      refine ⟨.ref D, rfl, D, os.map V.int, rfl, .inl ⟨sqL e4, fun p np => ?_⟩⟩
      exact q _ p os (s4.trans (.of (same_upd np))) ((hB4.same (same_upd np)).more (by omega)) upd_same (by omega)
end
end K8

/-! parting_right -/
namespace K8
open PySem PySem.Spec PyProof.Rows L2 K8S
def dPr (p : Int × Int) : PyData := .tuple [.int p.1, .int p.2]
def dTie (t : Tie) : PyData := .tuple [.int t.1, .int t.2.1, .int t.2.2]
def dWeb (n : Nat) (ts : List Tie) : PyData := .tuple [.int n, .tuple (ts.map dTie)]
theorem eqv_pr (p q : Int × Int) : PyData.eqv (dPr q) (dPr p) = decide (q = p) := by
  unfold dPr
  rw [Bool.eq_iff_iff, decide_eq_true_eq]
  simp [PyData.eqv, PyData.eqvAll, Prod.ext_iff]
theorem any_pr (p : Int × Int) : ∀ ps : List (Int × Int), ((ps.map dPr).any fun z => PyData.eqv z (dPr p)) = decide (p ∈ ps)
  | [] => rfl
  | q :: r => by
    rw [List.map_cons, List.any_cons, any_pr p r, eqv_pr, Bool.eq_iff_iff, Bool.or_eq_true, decide_eq_true_eq, decide_eq_true_eq, decide_eq_true_eq, List.mem_cons]
    exact ⟨fun z => z.elim (fun e => .inl e.symm) .inr, fun z => z.elim (fun e => .inl e.symm) .inr⟩
theorem lay_pr : ∀ ps : List (Int × Int), PyData.canLayAll0 (ps.map dPr) = true
  | [] => by rw [List.map_nil, PyData.canLayAll0]
  | q :: r => by
    rw [List.map_cons, PyData.canLayAll0, lay_pr r, Bool.and_true]
    unfold dPr
    simp [PyData.canLay0, PyData.canLayAll0]
theorem lay_tie : ∀ ts : List Tie, PyData.canLayAll0 (ts.map dTie) = true
  | [] => by rw [List.map_nil, PyData.canLayAll0]
  | q :: r => by
    rw [List.map_cons, PyData.canLayAll0, lay_tie r, Bool.and_true]
    unfold dTie
    simp [PyData.canLay0, PyData.canLayAll0]
theorem depth_pr : ∀ ps : List (Int × Int), PyData.depthAll (ps.map dPr) ≤ 1
  | [] => by rw [List.map_nil, PyData.depthAll]; omega
  | q :: r => by
    rw [List.map_cons, PyData.depthAll]
    have h1 := depth_pr r
    have h2 : PyData.depth (dPr q) = 1 := by
      unfold dPr
      simp [PyData.depth, PyData.depthAll]
    omega
theorem depth_tie : ∀ ts : List Tie, PyData.depthAll (ts.map dTie) ≤ 1
  | [] => by rw [List.map_nil, PyData.depthAll]; omega
  | q :: r => by
    rw [List.map_cons, PyData.depthAll]
    have h1 := depth_tie r
    have h2 : PyData.depth (dTie q) = 1 := by
      unfold dTie
      simp [PyData.depth, PyData.depthAll]
    omega
theorem shaped_pr (p : Int × Int) : SeqAt.shaped (dPr p) = true := by
  unfold SeqAt.shaped dPr
  simp [PyData.canLay0, PyData.canLayAll0, PyData.depth, PyData.depthAll]
theorem shaped_cut (ps : List (Int × Int)) : SeqAt.shaped (.list (ps.map dPr)) = true := by
  unfold SeqAt.shaped
  rw [PyData.canLay0, lay_pr, Bool.true_and, decide_eq_true_eq, PyData.depth]
  have := depth_pr ps
  omega
theorem shaped_web (n : Nat) (ts : List Tie) : SeqAt.shaped (dWeb n ts) = true := by
  unfold SeqAt.shaped dWeb
  have := depth_tie ts
  have h2 := lay_tie ts
  simp [PyData.canLay0, PyData.canLayAll0, PyData.depth, PyData.depthAll, h2]
  omega
theorem dpAll_of {α : Type} {K : PySem.W.Frag} {H : Hp} {f : α → PyData} : ∀ {l : List (Addr × α)}, (∀ p ∈ l, Dp K H (.ref p.1) (f p.2)) → DpAll K H (refs l) ((vals l).map f)
  | [], _ => .nil
  | p :: r, h => .cons (h p List.mem_cons_self) (dpAll_of fun q hq => h q (List.mem_cons_of_mem _ hq))
theorem CutAt.dp {K : PySem.W.Frag} {H : Hp} {c : Addr} {ps : List (Addr × (Int × Int))} (h : CutAt H c ps) : Dp K H (.ref c) (.list ((vals ps).map dPr)) :=
  .lst (sqL h.lst) (dpAll_of fun p m => dp_pr (sqT (h.each p m)))
theorem WebAt.dp {K : PySem.W.Frag} {H : Hp} {W : Addr} {n : Nat} {ts : List (Addr × Tie)} (h : WebAt H W n ts) : Dp K H (.ref W) (dWeb n (vals ts)) := by
  obtain ⟨T, a, b⟩ := h.ex
  refine .tup (sqT a) (.cons (.int _) (.cons (.tup (sqT b) (dpAll_of fun p m => ?_)) .nil))
  exact .tup (sqT (h.each p m)) (.cons (.int _) (.cons (.int _) (.cons (.int _) .nil)))
theorem hu65 {A : Around} {k : Nat} (hr : Room k A) : A.units + 65 < cLine := by
  have := hr.un
  omega
section
variable {P : Program} {w : World} {K : PySem.W.Frag} {mg : Str → Option Value} {base : Heap}
def spRight : Sp := fun vs H Q _ => ∃ (W po c so : Addr) (n : Nat) (ts : List (Addr × Tie)) (posts : List Int) (ps : List (Addr × (Int × Int))) (fs : List (Addr × List Int)), vs = [.ref W, .ref po, .ref c, .ref so] ∧ WebAt H W n ts ∧ WebR n (vals ts) ∧ ts.length ≤ 90 ∧ n ≤ 30 ∧
  H po = some (.lst (posts.map V.int)) ∧ posts.Nodup ∧ (∀ x ∈ posts, 0 ≤ x ∧ x < (n : Int)) ∧ posts ≠ [] ∧ posts.length ≤ 30 ∧ CutAt H c ps ∧ ps.length ≤ 300 ∧ PiecesAt H so n (kept (vals ts) (vals ps)) fs ∧ Parting (kept (vals ts) (vals ps)) posts ∧ ∀ H', Same H H' → Q (.bl true) H'
theorem okRight {f : Addr} {fd : FuncData} {k : Nat} (F : Fun K "_law_parting_right" "_law_parting_right" sLPartingRight f fd) (T : Mg mg) (DO : Dn P w K mg base "owners_of" k spOwnersOf) (DC : Dn P w K mg base "cut_by" k spCutBy) (DP : Dn P w K mg base "pruned" k spPruned)
    (DI : Dn P w K mg base "is_parting" k spIsParting) (DG : Dn P w K mg base "weight_of" k spWeightOf) (DW : Dn P w K mg base "without" k spWithout) : FnOk P w K mg base CX0 (k + 1) f fd ["_law_web_here", "_law_posts_here", "_law_cut_here", "_law_some"] spRight := by
  refine F.ok scLPartingRight (fun vs H Q E h => ?_) (fun cdv A outer s H vs Q E hr h => ?_)
  · obtain ⟨W, po, c, so, n, ts, posts, ps, fs, rfl, _⟩ := h
    rfl
  · obtain ⟨W, po, c, so, n, ts, posts, ps, fs, rfl, hW, hR, hz, hn, hpo, hnd, hpr, hpn, hpf, hC, hcz, hF, hPt, q⟩ := h
    refine ⟨_, pss_cons (ps_set (i := 4) scLPartingRight.nd rfl (.inr rfl) (pe_dn DO hr (by rfl) (pa_cons (pv 0) (pa_cons (pv 1) (pa_cons (pv 2) pa_nil)))))
      (pss_cons (ps_for PassesOwn.never rfl (pi_list (pv 3)) (pg_name (i := 5) scLPartingRight.nd rfl (.inl rfl))
        (pss_one (ps_if (pt_cmpR op_ne (pe_lenC rfl (by rfl) T.len (by rfl) T.set (pe_lc (own := [("_law_place", 9)]) (g := gName 9) (tt := tYes) rfl scLPartingRight.nd (pi_list (pv 5))
            (blkOk_by (N := ["_law_web_here", "_law_posts_here", "_law_cut_here", "_law_some", "_law_owners_here", "_law_piece", "_law_less", "_law_left", "_law_fewer", "_law_place", "_law_pair"]) (sc := defScope sLPartingRight) (by decide +kernel))
            (fun _ _ _ _ _ => pg_name (i := 9) scLPartingRight.nd rfl (Or.inl rfl)) (fun _ _ _ _ _ => pts_nil) (fun _ _ _ _ _ => pe_ix (r := rIxT K) ix_tup (pv 4) (pv 9) (fun _ _ => rfl)))) pe_int (nomark _)) (pss_one (ps_ret pe_bl)) pss_nil)))
      (pss_cons (ps_set (i := 6) scLPartingRight.nd rfl (.inl rfl) (pe_dn DC hr (by rfl) (pa_cons (pv 0) (pa_cons (pv 4) pa_nil))))
      (pss_cons (ps_set (i := 7) scLPartingRight.nd rfl (.inr rfl) (pe_dn DP hr (by rfl) (pa_cons (pv 0) (pa_cons (pv 1) (pa_cons (pv 2) pa_nil)))))
      (pss_cons (ps_for PassesOwn.never rfl (pi_tup (pe_tup (pa_cons (pv 6) (pa_cons (pv 7) pa_nil)))) (pg_name (i := 8) scLPartingRight.nd rfl (.inl rfl))
        (pss_cons (ps_if (pw_or (pt_not (pt_val (pe_dn DI hr (by rfl) (pa_cons (pv 0) (pa_cons (pv 1) (pa_cons (pv 8) pa_nil))))))
            (pw_or1 (pt_not (pt_val (pe_callB (cr_all rfl) (by rfl) T.all (by decide +kernel) (pa_cons (pe_lc (own := [("_law_pair", 10)]) (g := gName 10) (tt := tYes) rfl scLPartingRight.nd (pi_list (pv 8))
              (blkOk_by (N := ["_law_web_here", "_law_posts_here", "_law_cut_here", "_law_some", "_law_owners_here", "_law_piece", "_law_less", "_law_left", "_law_fewer", "_law_place", "_law_pair"]) (sc := defScope sLPartingRight) (by decide +kernel))
              (fun _ _ _ _ _ => pg_name (i := 10) scLPartingRight.nd rfl (Or.inl rfl)) (fun _ _ _ _ _ => pts_nil) (fun _ _ _ _ _ => pe_cmpR (r := rInD K) (op_inD (hu65 hr)) (pv 10) (pv 2) (by with_unfolding_all rfl))) pa_nil)))))).pt (pss_one (ps_ret pe_bl)) pss_nil)
          (pss_one (ps_if (pt_cmpR op_gt (pe_dn DG hr (by rfl) (pa_cons (pv 0) (pa_cons (pv 8) pa_nil))) (pe_dn DG hr (by rfl) (pa_cons (pv 0) (pa_cons (pv 2) pa_nil))) (nomark _)) (pss_one (ps_ret pe_bl)) pss_nil))))
      (pss_one (ps_ret (pe_cmpR (op_eqD hr.units) (pe_dn DW hr (by rfl) (pa_cons (pe_dn DW hr (by rfl) (pa_cons (pv 0) (pa_cons (pv 7) pa_nil))) (pa_cons (pe_lc (own := [("_law_pair", 10)]) (g := gName 10) rfl scLPartingRight.nd (pi_list (pv 2))
              (blkOk_by (N := ["_law_web_here", "_law_posts_here", "_law_cut_here", "_law_some", "_law_owners_here", "_law_piece", "_law_less", "_law_left", "_law_fewer", "_law_place", "_law_pair"]) (sc := defScope sLPartingRight) (by decide +kernel))
              (fun _ _ _ _ _ => pg_name (i := 10) scLPartingRight.nd rfl (Or.inl rfl)) (fun _ _ _ _ _ => pts_one (pt_cmpR (r := rNotInD K) (op_notInD (hu65 hr)) (pv 10) (pv 7) (by with_unfolding_all rfl))) (fun _ _ _ _ _ => pv 10)) pa_nil)))
            (pe_dn DW hr (by rfl) (pa_cons (pv 0) (pa_cons (pv 2) pa_nil))) (nomark _)))))))), ?_⟩
    have hn64 : n < 64 := by omega
    have hz1 : ts.length ≤ 1000 := by omega
    have hcz1 : ps.length ≤ 1000 := by omega
    have hpf1 : posts.length ≤ 1000 := by omega
    have hRk := hR.kept (vals ps)
    refine ⟨.ref W, rfl, .ref po, rfl, .ref c, rfl, W, po, c, n, ts, posts, ps, rfl, hW, hR, hz1, hn64, hpo, hpf1, hpn, hpr, hC, hcz1, hPt, fun H1 O os d o s1 eO hT hO => ?_⟩
    have hF1 := hF.same s1
    refine ⟨.ref so, rfl, so, rfl, ⟨_, sqL hF1.lst⟩, ?_⟩
    refine for_list (K := K) (a := so) (xs := refs fs) (fun i σ H2 => ∃ y5 : Option V, σ = [some (.ref W), some (.ref po), some (.ref c), some (.ref so), some (.ref O), y5, none, none, none, none, none] ∧ Same H1 H2)
      ⟨none, rfl, .refl _⟩ (fun i σ H2 _ p => ?_) (fun i x σ H2 hx p => ?_) (fun σ H2 p => ?_)
    · obtain ⟨y5, rfl, s2⟩ := p
      exact s2.seq (sqL hF1.lst)
    · obtain ⟨y5, rfl, s2⟩ := p
      obtain ⟨g, hg, rfl⟩ := refs_at hx
      have hgm := List.mem_of_getElem? hg
      have hP : g.2 ∈ vals fs := List.mem_map.mpr ⟨g, hgm, rfl⟩
      have eg := s2 _ _ (hF1.each g hgm)
      have eO2 := s2 _ _ eO
      refine ⟨.ref g.1, rfl, g.1, rfl, ⟨_, sqL eg⟩, fun D nD => ?_⟩
      refine lc_it (walk_list (K := K) (a := g.1) (xs := g.2.map V.int)) (LcP H2 D fun i out H3 => out = ((g.2.take i).map o).map V.int)
        (LcP.start nD rfl) (fun i H3 _ p => ?_) (fun i x H3 H4 hi p y => ?_) (fun H3 p => ?_)
      · obtain ⟨out, _, s3, _⟩ := p
        exact s3.seq (sqL eg)
      · obtain ⟨out, hl, s3, e3, eo⟩ := p
        obtain ⟨rfl, hx⟩ := y
        obtain ⟨z, ez, rfl⟩ := ints_at hx
        obtain ⟨a, ea, ha⟩ := nat_of (hF.ok.range hRk hP (List.mem_of_getElem? ez))
        refine ⟨rfl, .ref O, rfl, .int z, rfl, O, _, z, .int (o z), rfl, rfl, sqT (s3 _ _ eO2), by rw [ea]; exact atI_nat (by rw [List.getElem?_map, hT.2 a ha] <;> rfl), ?_⟩
        refine LcP.push nD hi (by rw [List.length_map]; have := hF.small g hgm; omega) hl s3 e3 ?_
        rw [take_more ez, eo, List.map_append, List.map_append] <;> rfl
      · obtain ⟨out, hl, s3, e3, eo⟩ := p
        rw [List.length_map, List.take_length] at eo
        subst eo
        obtain ⟨x0, hx0, hcl⟩ := hF.ok.cls g.2 hP
        refine ⟨D, g.2.map o, o x0, rfl, sqL e3, (fun e => hF.ok.ne g.2 hP (List.map_eq_nil_iff.mp e)), by rw [List.length_map]; have := hF.small g hgm; omega, fun m hm => ?_, rfl, _, rfl, ?_⟩
        · obtain ⟨y, hy, rfl⟩ := List.mem_map.mp hm
          exact (hO.same hRk hx0 ((hcl y).mp hy)).symm
        exact ite2 (fun c => absurd c (by decide)) (fun _ => ⟨_, rfl, s2.trans s3⟩)
    · obtain ⟨y5, rfl, s2⟩ := p
      have s12 := s1.trans s2
      refine ⟨.ref W, rfl, .ref O, rfl, W, O, n, ts, os, o, rfl, hW.same s12, hR, hz1, s2 _ _ eO, hT.1, hT.2, fun H3 L1 ps1 s3 hL1 hv1 hl1 => ?_⟩
      have s13 := s12.trans s3
      refine ⟨.ref W, rfl, .ref po, rfl, .ref c, rfl, W, po, c, n, ts, posts, ps, rfl, hW.same s13, hR, hz1, hn64, s13 _ _ hpo, hpf1, hnd, hpr, hC.same s13, hcz1, hPt, fun H4 L2' ps2 s4 hL2 hm2 hl2 hPt2 => ?_⟩
      have s14 := s13.trans s4
      have hL1' := hL1.same s4
      have hm1 : ∀ x ∈ vals ps1, x ∈ vals ps := by
        rw [hv1]
        exact cutBy_sub hR hO
      have hPt1 : Parting (kept (vals ts) (vals ps1)) posts := by
        rw [hv1]
        exact cutBy_parting hpr hO
      refine ⟨.ref L1, rfl, .ref L2', rfl, (by show 2 ≤ sizeLine; decide), fun u nu => ?_⟩
      have s5 : Same H4 (upd H4 u (.tup [.ref L1, .ref L2'])) := same_upd nu
      have eu : (upd H4 u (.tup [.ref L1, .ref L2'])) u = some (.tup [.ref L1, .ref L2']) := upd_same
      generalize upd H4 u (.tup [.ref L1, .ref L2']) = H5 at s5 eu
      have s15 := s14.trans s5
      refine ⟨u, rfl, ⟨_, sqT eu⟩, ?_⟩
      refine for_tup (K := K) (a := u) (xs := [.ref L1, .ref L2']) (fun i σ H6 => ∃ y8 : Option V, σ = [some (.ref W), some (.ref po), some (.ref c), some (.ref so), some (.ref O), y5, some (.ref L1), some (.ref L2'), y8, none, none] ∧ Same H5 H6)
        ⟨none, rfl, .refl _⟩ (fun i σ H6 _ p => ?_) (fun i x σ H6 hx p => ?_) (fun σ H6 p => ?_)
      · obtain ⟨y8, rfl, s6⟩ := p
        exact Same.tup s6 (sqT eu)
      · obtain ⟨y8, rfl, s6⟩ := p
        obtain ⟨Lf, psf, rfl, hLf, hmf, hlf, hPf⟩ : ∃ (Lf : Addr) (psf : List (Addr × (Int × Int))), x = .ref Lf ∧ CutAt H5 Lf psf ∧ (∀ x ∈ vals psf, x ∈ vals ps) ∧ psf.length ≤ 1000 ∧ Parting (kept (vals ts) (vals psf)) posts := by
          match i, hx with
          | 0, hx => exact ⟨L1, ps1, (Option.some.inj hx).symm, hL1'.same s5, hm1, by omega, hPt1⟩
          | 1, hx => exact ⟨L2', ps2, (Option.some.inj hx).symm, hL2.same s5, hm2, by omega, hPt2⟩
          | i + 2, hx => cases hx
        have s16 := s15.trans s6
        have hLf6 := hLf.same s6
        refine ⟨.ref W, rfl, .ref po, rfl, .ref Lf, rfl, W, po, Lf, n, ts, posts, psf, rfl, hW.same s16, hR, hz1, hn64, s16 _ _ hpo, hpf1, hnd, hpr, hLf6, hlf, fun H7 b s7 hb => ⟨b, rfl, ?_⟩⟩
        have hbt : b = true := hb.mpr hPf
        subst hbt
        show if (!true) = true then _ else _
        rw [if_neg (show ¬ (!true) = true by decide)]
        have s17 := s16.trans s7
        have hLf7 := hLf6.same s7
        refine ⟨.ref Lf, rfl, Lf, rfl, ⟨_, sqL hLf7.lst⟩, fun D nD => ?_⟩
        refine lc_it (walk_list (K := K) (a := Lf) (xs := refs psf)) (LcP H7 D fun i out H8 => out = List.replicate i (V.bl true))
          (LcP.start nD rfl) (fun i H8 _ p => ?_) (fun i x H8 H9 hi p y => ?_) (fun H8 p => ?_)
        · obtain ⟨out, _, s8, _⟩ := p
          exact s8.seq (sqL hLf7.lst)
        · obtain ⟨out, hl, s8, e8, eo⟩ := p
          obtain ⟨rfl, hx⟩ := y
          obtain ⟨m, hm, rfl⟩ := refs_at hx
          have hmm := List.mem_of_getElem? hm
          refine ⟨rfl, .ref m.1, rfl, .ref c, rfl, dPr m.2, _, dp_pr (sqT (s8 _ _ (hLf7.each m hmm))), (hC.same (s17.trans s8)).dp, shaped_pr _, shaped_cut _, ?_⟩
          rw [any_pr, decide_eq_true (hmf m.2 (List.mem_map.mpr ⟨m, hmm, rfl⟩))]
          refine LcP.push nD hi (by rw [List.length_map]; omega) hl s8 e8 ?_
          rw [eo, List.replicate_succ']
        · obtain ⟨out, hl, s8, e8, eo⟩ := p
          subst eo
          have hal : (List.replicate (refs psf).length true).all id = true := by
            rw [List.all_eq_true]
            intro x hx
            exact (List.mem_replicate.mp hx).2
          refine ⟨D, List.replicate (refs psf).length true, rfl, by rw [List.map_replicate]; exact sqL e8, true, by rw [hal], ?_⟩
          show if (!true) = true then _ else _
          rw [if_neg (show ¬ (!true) = true by decide)]
          have s18 := s17.trans s8
          refine ⟨.ref W, rfl, .ref Lf, rfl, W, Lf, n, ts, psf, rfl, hW.same s18, hLf7.same s8, hz1, hlf, fun H9 s9 => ?_⟩
          have s19 := s18.trans s9
          refine ⟨.ref W, rfl, .ref c, rfl, W, c, n, ts, ps, rfl, hW.same s19, hC.same s19, hz1, hcz1, fun H10 s10 => ⟨_, _, rfl, rfl, _, rfl, ?_⟩⟩
          refine ite2 (fun z => ?_) (fun _ => ⟨_, rfl, s6.trans (s7.trans (s8.trans (s9.trans s10)))⟩)
          have h1 := of_decide_eq_true z
          have h2 := wsum_le (ts := vals ts) (fun t m => (hR t m).2.2) hmf
          omega
      · obtain ⟨y8, rfl, s6⟩ := p
        have s16 := s15.trans s6
        have hL26 := hL2.same (s5.trans s6)
        refine ⟨.ref W, rfl, .ref L2', rfl, W, L2', n, ts, ps2, rfl, hW.same s16, hL26, hz1, by omega, fun H7 W2 s7 hW2 => ?_⟩
        have s17 := s16.trans s7
        have hC7 := hC.same s17
        have hL27 := hL26.same s7
        refine ⟨.ref c, rfl, c, rfl, ⟨_, sqL hC7.lst⟩, fun D nD => ?_⟩
        refine lc_it (walk_list (K := K) (a := c) (xs := refs ps)) (LcP H7 D fun i out H8 => out = refs ((ps.take i).filter fun p => !decide (p.2 ∈ vals ps2)))
          (LcP.start nD rfl) (fun i H8 _ p => ?_) (fun i x H8 H9 hi p y => ?_) (fun H8 p => ?_)
        · obtain ⟨out, _, s8, _⟩ := p
          exact s8.seq (sqL hC7.lst)
        · obtain ⟨out, hl, s8, e8, eo⟩ := p
          obtain ⟨rfl, hx⟩ := y
          obtain ⟨m, hm, rfl⟩ := refs_at hx
          have hmm := List.mem_of_getElem? hm
          refine ⟨rfl, .ref m.1, rfl, .ref L2', rfl, dPr m.2, _, dp_pr (sqT (s8 _ _ (hC7.each m hmm))), (hL27.same s8).dp, shaped_pr _, shaped_cut _, ?_⟩
          rw [any_pr]
          refine ⟨_, rfl, ite2 (fun cc => ?_) (fun cc => ?_)⟩
          · refine ⟨.ref m.1, rfl, ?_⟩
            refine LcP.push nD hi (by rw [List.length_map]; omega) hl s8 e8 ?_
            rw [take_more hm, filter_more, if_pos cc, eo]
            exact (refs_snoc _ m).symm
          · refine LcP.skip hl s8 e8 ?_
            rw [take_more hm, filter_more, if_neg cc, eo]
        · obtain ⟨out, hl, s8, e8, eo⟩ := p
          rw [List.length_map, List.take_length] at eo
          have hCD : CutAt H8 D (ps.filter fun p => !decide (p.2 ∈ vals ps2)) := ⟨by rw [e8, eo], fun m hm => s8 _ _ (hC7.each m (List.mem_filter.mp hm).1)⟩
          have hlD : (ps.filter fun p => !decide (p.2 ∈ vals ps2)).length ≤ 1000 := Nat.le_trans (List.length_filter_le _ _) hcz1
          have hz2 : (keptA ts (vals ps2)).length ≤ 1000 := Nat.le_trans (List.length_filter_le _ _) hz1
          refine ⟨W2, D, n, _, _, rfl, hW2.same s8, hCD, hz2, hlD, fun H9 W3 s9 hW3 => ?_⟩
          have s19 := s17.trans (s8.trans s9)
          refine ⟨.ref W, rfl, .ref c, rfl, W, c, n, ts, ps, rfl, hW.same s19, hC.same s19, hz1, hcz1, fun H10 W4 s10 hW4 => ?_⟩
          refine ⟨_, _, (hW3.same s10).dp, hW4.dp, shaped_web _ _, shaped_web _ _, ?_⟩
          have e1 : vals (keptA (keptA ts (vals ps2)) (vals (ps.filter fun p => !decide (p.2 ∈ vals ps2)))) = vals (keptA ts (vals ps)) := by
            rw [vals_kept, vals_kept, vals_kept, vals_filter (fun p => !decide (p ∈ vals ps2))]
            exact kept_twice hm2
          rw [e1, SeqAt.eqv_refl _ (SeqAt.canLay_of_shaped (shaped_web n _))]
          exact q _ (s19.trans s10)
end
end K8

/-! the law -/
namespace K8
open PySem PySem.Spec PyProof.Rows L2 K8S
/-- the scope of the comprehension that counts posts -/
def lawMost : Scope := match defBody sLaw with
  | .For _ _ b _ _ :: _ => match b.getD 5 (.Pass ⟨0, 0, 0, 0⟩) with
    | .Assign _ (.Call _ (.ListComp _ _ sc _ :: _) _ _) _ => sc
    | _ => defScope sLaw
  | _ => defScope sLaw
/-- .. as it stands within the law: a cell of the law's own -/
def lawMostC : Scope := { lawMost with names := lawMost.names.map fun p => if p.1 == ("_law_posts_here" : Str) then (p.1, .cell) else p }
abbrev lawN : List Str := ["_law_script", "_law_k", "_law_box_here", "_law_web_here", "_law_posts_here", "_law_own", "_law_cut_here", "_law_some", "_law_piece", "_law_most", "_law_names", "_law_number", "_law_place", "_law_less", "_law_between", "_law_post", "_law_pair", "_law_tie"]
theorem SameB.same {bx : Addr} {H H1 H2 : Hp} (n : H bx = none) (s : Same H H1) (b : SameB bx H1 H2) : Same H H2 := fun a x e => b a x (ne_of_none e n) (s a x e)
section
variable {P : Program} {w : World} {K : PySem.W.Frag} {mg : Str → Option Value} {base : Heap}
def spLaw (K : PySem.W.Frag) : Sp := fun vs H Q _ => ∃ (a : Addr) (ns : List Int), vs = [.ref a] ∧ SqL K H a (ns.map V.int) ∧ ns.length ≤ 63 ∧ ∀ H', Q (.bl true) H'
theorem okLaw {f : Addr} {fd : FuncData} {k : Nat} (F : Fun K "law" "law" sLaw f fd) (T : Mg mg) (DB : Dn P w K mg base "_law_box" k (spBox K)) (DWP : Dn P w K mg base "_law_with_posts" k spLWithPosts) (DCO : Dn P w K mg base "_law_cut_of" k spLCutOf) (DO : Dn P w K mg base "_law_owners" k spLOwners)
    (DC : Dn P w K mg base "_law_cut" k spLCut) (DT : Dn P w K mg base "_law_take" k spTake) (DI : Dn P w K mg base "pieces" k spPieces) (DW : Dn P w K mg base "without" k spWithout) (DP : Dn P w K mg base "is_parting" k spIsParting) (DM : Dn P w K mg base "merged" k spMerged)
    (DG : Dn P w K mg base "weight_of" k spWeightOf) (DR : Dn P w K mg base "_law_parting_right" k spRight) : FnOk P w K mg base CX0 (k + 1) f fd ["_law_script"] (spLaw K) := by
  refine F.ok scLaw (fun vs H Q E h => ?_) (fun cdv A outer s H vs Q E hr h => ?_)
  · obtain ⟨a, ns, rfl, _⟩ := h
    rfl
  · obtain ⟨a, ns, rfl, hS, hlen, q⟩ := h
    refine ⟨_, pss_cons (ps_for PassesOwn.never rfl (pi_range1 (by rfl) T.range (pa_cons (pe_op op_add pe_int (pe_callB (call_min2 rfl) (by rfl) T.min (by decide +kernel) (pa_cons pe_int (pa_cons (pe_callB (r := rLenS K) cr_lenS (by rfl) T.len (by decide +kernel) (pa_cons (pv 0) pa_nil)) pa_nil)))) pa_nil)) (pg_name (i := 1) scLaw.nd rfl (.inl rfl))
        (pss_cons (ps_set (i := 2) scLaw.nd rfl (.inl rfl) (pe_dn DB hr (by rfl) (pa_cons (pv 0) (pa_cons (pv 1) pa_nil))))
        (pss_cons (ps_asg (pe_dn DWP hr (by rfl) (pa_cons (pv 2) pa_nil)) (pg_tup rfl (pgs_cons (pg_name (i := 3) scLaw.nd rfl (.inl rfl)) (pgs_cons (pg_name (i := 4) scLaw.nd rfl (.inr rfl)) pgs_nil))))
        (pss_cons (ps_set (i := 5) scLaw.nd rfl (.inl rfl) (pe_dn DCO hr (by rfl) (pa_cons (pv 3) (pa_cons (pe_dn DO hr (by rfl) (pa_cons (pv 2) (pa_cons (pv 3) (pa_cons (pv 4) pa_nil)))) pa_nil))))
        (pss_cons (ps_set (i := 6) scLaw.nd rfl (.inl rfl) (pe_ix ix_list (pe_lst (pa_cons (pv 5) (pa_cons
            (pe_callB (cr_sortB rfl) (by rfl) T.sorted (by decide +kernel) (pa_cons (pe_callTy (cr_setB rfl hr.units) (by rfl) T.set (by decide +kernel) (pa_cons (pe_op op_cat (pv 5) (pe_dn DC hr (by rfl) (pa_cons (pv 2) (pa_cons (pv 3) pa_nil)))) pa_nil)) pa_nil))
            (pa_cons (pe_dn DC hr (by rfl) (pa_cons (pv 2) (pa_cons (pv 3) pa_nil))) pa_nil)))) (pe_dn DT hr (by rfl) (pa_cons (pv 2) (pa_cons pe_int pa_nil))) (fun _ _ => rfl)))
        (pss_cons (ps_set (i := 7) scLaw.nd rfl (.inl rfl) (pe_dn DI hr (by rfl) (pa_cons (pe_dn DW hr (by rfl) (pa_cons (pv 3) (pa_cons (pv 6) pa_nil))) pa_nil)))
        (pss_cons (ps_set (i := 9) scLaw.nd rfl (.inl rfl) (pe_callB (cr_max rfl) (by rfl) T.max (by decide +kernel) (pa_cons (pe_lc (own := [("_law_piece", 8)]) (g := gName 8) (tt := tYes)
            (te := tCB (rLenS K) (tCons (tLc (iList K (tVar 4)) (gName 15) (tTest (tOp (rIn K false) (tVar 15) (tVar 8))) (tVar 15) [15]) tNil)) rfl scLaw.nd (pi_list (pv 7)) (blkOk_by (N := lawN) (sc := defScope sLaw) (by decide +kernel))
            (fun _ _ _ _ _ => pg_name (i := 8) scLaw.nd rfl (.inr rfl)) (fun _ _ _ _ _ => pts_nil)
            (fun _ _ _ _ _ => pe_callB (r := rLenS K) cr_lenS (by rfl) T.len (by decide +kernel) (pa_cons (pe_lc (own := [("_law_post", 15)]) (wi := iList K (tVar 4)) (g := gName 15) (tt := tTest (tOp (rIn K false) (tVar 15) (tVar 8))) (te := tVar 15) rfl scLaw.nd (pi_list (pv 4)) (blkOk_by (N := lawN) (sc := lawMostC) (by decide +kernel))
              (fun _ _ _ _ _ => pg_name (i := 15) scLaw.nd rfl (.inl rfl)) (fun _ _ _ _ _ => pts_one (pt_cmpR (r := rIn K false) op_in_seq (pv 15) (pv 8) (by with_unfolding_all rfl))) (fun _ _ _ _ _ => pv 15)) pa_nil))) pa_nil)))
        (pss_cons (ps_if (pt_cmpR op_ne (pe_dn DP hr (by rfl) (pa_cons (pv 3) (pa_cons (pv 4) (pa_cons (pv 6) pa_nil)))) (pe_cmpR op_lt (pv 9) pe_int (nomark _)) (nomark _)) (pss_one (ps_ret pe_bl)) pss_nil)
        (pss_cons (ps_set (i := 10) scLaw.nd rfl (.inr rfl) (pe_op op_rep (pe_lst (pa_cons pe_int pa_nil)) (pe_ix ix_tup (pv 3) pe_int (fun _ _ => rfl))))
        (pss_cons (ps_for PassesOwn.never rfl (pi_enum (by rfl) T.enumerate (pa_cons (pv 7) pa_nil)) (pg_tup rfl (pgs_cons (pg_name (i := 11) scLaw.nd rfl (.inl rfl)) (pgs_cons (pg_name (i := 8) scLaw.nd rfl (.inl rfl)) pgs_nil)))
            (pss_one (ps_for PassesOwn.never rfl (pi_list (pv 8)) (pg_name (i := 12) scLaw.nd rfl (.inl rfl)) (pss_one (ps_asg (pv 11) (pg_sub (pv 10) (pv 12) set_list))))))
        (pss_cons (ps_set (i := 13) scLaw.nd rfl (.inl rfl) (pe_dn DM hr (by rfl) (pa_cons (pv 3) (pa_cons (pe_callTy call_tuple_of (by rfl) T.tuple (by decide +kernel) (pa_cons (pv 10) pa_nil)) pa_nil))))
        (pss_cons (ps_setLc (i := 14) (own := [("_law_pair", 16)]) (g := gName 16) rfl scLaw.nd rfl rfl (sw_true rfl rfl rfl (by decide +kernel)) (pi_list (pv 6)) (blkOk_by (N := lawN) (sc := defScope sLaw) (by decide +kernel))
            (fun _ _ _ _ _ => pg_name (i := 16) scLaw.nd rfl (.inl rfl))
            (fun _ _ _ _ _ => pts_one (pt_cmpR op_ne (pe_ix (r := rIxL K) ix_list (pv 10) (pe_ix (r := rIxT K) ix_tup (pv 16) pe_int (fun _ _ => rfl)) (fun _ _ => rfl)) (pe_ix (r := rIxL K) ix_list (pv 10) (pe_ix (r := rIxT K) ix_tup (pv 16) pe_int (fun _ _ => rfl)) (fun _ _ => rfl)) (nomark _)))
            (fun _ _ _ _ _ => pv 16))
        (pss_cons (ps_if (pt_cmpR op_ne (pe_callB (cr_sum rfl) (by rfl) T.sum (by decide +kernel) (pa_cons (pe_lc (own := [("_law_tie", 17)]) (g := gName 17) (tt := tYes) rfl scLaw.nd (pi_tup (pe_ix ix_tup (pv 13) pe_int (fun _ _ => rfl))) (blkOk_by (N := lawN) (sc := defScope sLaw) (by decide +kernel))
            (fun _ _ _ _ _ => pg_name (i := 17) scLaw.nd rfl (.inl rfl)) (fun _ _ _ _ _ => pts_nil) (fun _ _ _ _ _ => pe_ix (r := rIxT K) ix_tup (pv 17) pe_int (fun _ _ => rfl))) pa_nil))
            (pe_dn DG hr (by rfl) (pa_cons (pv 3) (pa_cons (pv 14) pa_nil))) (nomark _)) (pss_one (ps_ret pe_bl)) pss_nil)
        (pss_one (ps_if (pw_and (pt_cmpR op_lt (pv 9) pe_int (nomark _)) (pw_and1 (pt_not (pt_val (pe_dn DR hr (by rfl) (pa_cons (pv 3) (pa_cons (pv 4) (pa_cons (pv 6) (pa_cons (pv 7) pa_nil))))))))).pt (pss_one (ps_ret pe_bl)) pss_nil)))))))))))))))
      (pss_one (ps_ret pe_bl)), ?_⟩
    refine ⟨.ref a, rfl, a, _, rfl, .inl hS, 8, _, rfl, 1, _, rfl, rfl, ?_⟩
    rw [List.length_map]
    have hc9 : (if ((ns.length : Nat) : Int) < 8 then ((ns.length : Nat) : Int) else 8) ≤ 8 ∧ 0 ≤ (if ((ns.length : Nat) : Int) < 8 then ((ns.length : Nat) : Int) else 8) := by
      split <;> constructor <;> omega
    generalize (if ((ns.length : Nat) : Int) < 8 then ((ns.length : Nat) : Int) else 8) = cc8 at hc9
    refine ⟨1 + cc8, rfl, by omega, by omega, ?_⟩
    refine for_range (fun i σ H4 => ∃ y1 y2 y3 y4 y5 y6 y7 y8 y9 y10 y11 y12 y13 y14 y15 y16 y17 : Option V, σ = [some (.ref a), y1, y2, y3, y4, y5, y6, y7, y8, y9, y10, y11, y12, y13, y14, y15, y16, y17] ∧ Same H H4)
      ⟨none, none, none, none, none, none, none, none, none, none, none, none, none, none, none, none, none, rfl, .refl _⟩ (fun i' σ H0 hi p => ?_) (fun σ H4 p => ?_)
    · obtain ⟨y1, y2, y3, y4, y5, y6, y7, y8, y9, y10, y11, y12, y13, y14, y15, y16, y17, rfl, s0⟩ := p
      refine ⟨.ref a, rfl, .int (0 + i'), rfl, a, ns, i', by rw [Int.zero_add] <;> rfl, s0.seq hS, by omega, fun H1 bx s1 nbx hB1 => ?_⟩
      refine ⟨.ref bx, rfl, bx, 0, rfl, hB1, by omega, fun H2 p W po n ts posts b2 hB2 hn2 hn ep hW hR hz hP => ?_⟩
      refine ⟨p, [.ref W, .ref po], rfl, sqT ep, rfl, _, _, rfl, _, _, rfl, rfl, ?_⟩
      refine ⟨.ref W, rfl, .ref bx, rfl, .ref W, rfl, .ref po, rfl, bx, W, po, _, n, ts, posts, rfl, hB2, by omega, hW, hn, hP, fun H3 O os b3 hB3 eO hol => ?_⟩
      refine ⟨W, O, n, ts, os, rfl, hW.sameB hB2 b3, hR, hz, eO, hol, fun H4 own ps0 s4 hC0 hr0 hl0 => ?_⟩
      have hB4 := hB3.same s4
      have b24 : SameB bx H2 H4 := b3.trans (.of s4)
      refine ⟨.ref own, rfl, .ref own, rfl, .ref bx, rfl, .ref W, rfl, bx, W, _, n, ts, rfl, hB4, by omega, hW.sameB hB2 b24, hR, hz, fun H5 c1 ps1 b5 hB5 hC1 hr1 hl1 => ?_⟩
      have hC05 := hC0.sameB hB4 b5
      refine ⟨own, c1, refs ps0, refs ps1, rfl, rfl, hC05.lst, hC1.lst, by rw [List.length_map, List.length_map, sizeLine_eq]; omega, fun p5 np5 => ?_⟩
      have s5' : Same H5 (upd H5 p5 (.lst (refs ps0 ++ refs ps1))) := same_upd np5
      have e5' : (upd H5 p5 (.lst (refs ps0 ++ refs ps1))) p5 = some (.lst (refs ps0 ++ refs ps1)) := upd_same
      generalize upd H5 p5 (.lst (refs ps0 ++ refs ps1)) = H6 at s5' e5'
      have hks : ∀ r ∈ ps0 ++ ps1, H6 r.1 = some (.tup (prV r.2)) := fun r hr' => by
        rcases List.mem_append.mp hr' with z | z
        · exact s5' _ _ (hC05.each r z)
        · exact s5' _ _ (hC1.each r z)
      refine ⟨p5, (ps0 ++ ps1).map fun r => (r.1, [r.2.1, r.2.2]), rfl, ?_, fun r hr' => ?_, by rw [List.length_map, List.length_append]; omega, fun sa L nsa hLs _ hLlen => ?_⟩
      · rw [List.map_map]
        have e : ((fun p : Addr × List Int => V.ref p.1) ∘ fun r : Addr × (Int × Int) => (r.1, [r.2.1, r.2.2])) = fun r : Addr × (Int × Int) => V.ref r.1 := rfl
        rw [e, List.map_append]
        exact sqL e5'
      · obtain ⟨r', hr2, rfl⟩ := List.mem_map.mp hr'
        exact sqT (hks r' hr2)
      have hLr : ∀ b ∈ L, ∃ r ∈ ps0 ++ ps1, b = (r.1, [r.2.1, r.2.2]) := fun b hb => by
        obtain ⟨r, hr', e⟩ := List.mem_map.mp (hLs b hb)
        exact ⟨r, hr', e.symm⟩
      have s7' : Same H6 (upd H6 sa (SetBO P w sa L)) := same_upd nsa
      refine ⟨sa, L, rfl, upd_same, fun b hb => ?_, fun p6 bs np6 pm => ?_⟩
      · obtain ⟨r, hr', rfl⟩ := hLr b hb
        exact ⟨sqT (s7' _ _ (hks r hr')), fun z => by cases z⟩
      have hks7 : ∀ r ∈ ps0 ++ ps1, (upd H6 sa (SetBO P w sa L)) r.1 = some (.tup (prV r.2)) := fun r hr' => s7' _ _ (hks r hr')
      have np6' := np6
      have s8' : Same (upd H6 sa (SetBO P w sa L)) (upd (upd H6 sa (SetBO P w sa L)) p6 (.lst (refs bs))) := same_upd np6
      have e8' : (upd (upd H6 sa (SetBO P w sa L)) p6 (.lst (refs bs))) p6 = some (.lst (refs bs)) := upd_same
      have hbs : ∀ b ∈ bs, ∃ r ∈ ps0 ++ ps1, b = (r.1, [r.2.1, r.2.2]) := fun b hb => hLr b (pm.mem_iff.mp hb)
      have hLl : bs.length ≤ 300 := by
        rw [List.length_map, List.length_append] at hLlen
        rw [pm.length_eq]
        omega
      have s58 : Same H5 (upd (upd H6 sa (SetBO P w sa L)) p6 (.lst (refs bs))) := s5'.trans (s7'.trans s8')
      have hk8 : ∀ r ∈ ps0 ++ ps1, (upd (upd H6 sa (SetBO P w sa L)) p6 (.lst (refs bs))) r.1 = some (.tup (prV r.2)) := fun r hr' => s8' _ _ (hks7 r hr')
      have hCS : CutAt (upd (upd H6 sa (SetBO P w sa L)) p6 (.lst (refs bs))) p6 (bs.map fun b => (b.1, decP b.2)) := by
        refine ⟨?_, fun r hr' => ?_⟩
        · rw [e8']
          unfold refs
          rw [List.map_map] <;> rfl
        · obtain ⟨b, hb, rfl⟩ := List.mem_map.mp hr'
          obtain ⟨r, hr2, rfl⟩ := hbs b hb
          exact hk8 r hr2
      have hRS : CutR n (vals (bs.map fun b => (b.1, decP b.2))) := fun x hx => by
        unfold vals at hx
        rw [List.map_map] at hx
        obtain ⟨b, hb, rfl⟩ := List.mem_map.mp hx
        obtain ⟨r, hr2, rfl⟩ := hbs b hb
        rcases List.mem_append.mp hr2 with z | z
        · exact hr0 r.2 (List.mem_map.mpr ⟨r, z, rfl⟩)
        · exact hr1 r.2 (List.mem_map.mpr ⟨r, z, rfl⟩)
      have hLS : (bs.map fun b => (b.1, decP b.2)).length ≤ 300 := by rw [List.length_map]; exact hLl
      have b28 : SameB bx H2 (upd (upd H6 sa (SetBO P w sa L)) p6 (.lst (refs bs))) := (b24.trans b5).trans (.of s58)
      have hB8 := hB5.same s58
      have hC08 := hC05.same s58
      generalize (bs.map fun b => (b.1, decP b.2)) = psS at hCS hRS hLS
      refine ⟨.ref bx, rfl, .ref W, rfl, bx, W, _, n, ts, rfl, hB8, by omega, hW.sameB hB2 b28, hR, hz, fun H9 c2 ps2 b9 hB9 hC2 hr2 hl2 => ⟨(by show 3 ≤ sizeLine; decide), fun u nu => ?_⟩⟩
      have s10 : Same H9 (upd H9 u (.lst [.ref own, .ref p6, .ref c2])) := same_upd nu
      have hub := hB9.ne nu
      have hB10 := hB9.same s10
      refine ⟨.ref bx, rfl, bx, _, 3, rfl, hB10, by omega, ⟨by decide, by decide⟩, fun H11 r b11 hB11 hr11 => ?_⟩
      have b811 : SameB bx (upd (upd H6 sa (SetBO P w sa L)) p6 (.lst (refs bs))) H11 := (b9.trans (.of s10)).trans b11
      have g : ∃ (cc : Addr) (ps : List (Addr × (Int × Int))), atI [V.ref own, V.ref p6, V.ref c2] r = some (V.ref cc) ∧ CutAt H11 cc ps ∧ CutR n (vals ps) ∧ ps.length ≤ 300 := by
        have : r = 0 ∨ r = 1 ∨ r = 2 := by omega
        rcases this with e | e | e <;> subst e
        · exact ⟨own, ps0, rfl, hC08.sameB hB8 b811, hr0, by omega⟩
        · exact ⟨p6, psS, rfl, hCS.sameB hB8 b811, hRS, hLS⟩
        · exact ⟨c2, ps2, rfl, (hC2.same s10).sameB hB10 b11, hr2, by omega⟩
      obtain ⟨cc, ps, ecc, hC, hCr, hCl⟩ := g
      refine ⟨u, _, r, .ref cc, rfl, rfl, sqL (b11 _ _ hub upd_same), ecc, ?_⟩
      have b211 := b28.trans b811
      have s11 : Same H H11 := s0.trans (SameB.same nbx s1 (b2.trans b211))
      have hW11 := hW.sameB hB2 b211
      have hP11 := hP.sameB b211
      have epo := hP11.lst
      have hpnd := hP11.nd
      have hprg := hP11.rg
      have hpne := hP11.ne
      have hpf := hP11.few
      have hn64 : n < 64 := by omega
      have hz1 : ts.length ≤ 1000 := by omega
      have hCl1 : ps.length ≤ 1000 := by omega
      have hpf1 : posts.length ≤ 1000 := by omega
      clear hP11 hP b211 b811 b11 hB11 hB10 hB9 hB8 hB5 hB4 hB3 hB2 hB1 hC2 hCS hC08 hC05 hC0 hC1 hk8 hks7 hks hLr hbs pm s8' s7' s5' s58 b28 b24 b5 b9 b3 b2 e5' e8' eO ep
      refine ⟨.ref W, rfl, .ref cc, rfl, W, cc, n, ts, ps, rfl, hW11, hC, hz1, hCl1, fun H12 W2 s12 hW2 => ?_⟩
      have hRk := hR.kept (vals ps)
      have hR2 : WebR n (vals (keptA ts (vals ps))) := by rw [vals_kept]; exact hRk
      have hz2 : (keptA ts (vals ps)).length ≤ 1000 := Nat.le_trans (List.length_filter_le _ _) hz1
      refine ⟨W2, n, _, rfl, hW2, hR2, hz2, hn64, fun H13 so fs s13 hF => ?_⟩
      rw [vals_kept] at hF
      have s11' := s12.trans s13
      have hW13 := hW11.same s11'
      have hC13 := hC.same s11'
      have epo13 := s11' _ _ epo
      have s013 := s11.trans s11'
      refine ⟨.ref so, rfl, so, rfl, ⟨_, sqL hF.lst⟩, fun D nD => ?_⟩
      refine lc_it (walk_list (K := K) (a := so) (xs := refs fs)) (LcP H13 D fun i out H14 => out = (((vals fs).take i).map fun P => V.int ((postsIn posts P).length : Nat)))
        (LcP.start nD rfl) (fun i H14 _ p => ?_) (fun i x H14 H15 hi p y => ?_) (fun H14 p => ?_)
      · obtain ⟨out, _, s14, _⟩ := p
        exact s14.seq (sqL hF.lst)
      · obtain ⟨out, hl, s14, e14, eo⟩ := p
        obtain ⟨rfl, hx⟩ := y
        obtain ⟨g, hg, rfl⟩ := refs_at hx
        have hgm := List.mem_of_getElem? hg
        have hv : (vals fs)[i]? = some g.2 := by rw [List.getElem?_map, hg] <;> rfl
        have eg := s14 _ _ (hF.each g hgm)
        have epo14 := s14 _ _ epo13
        refine ⟨rfl, .ref po, rfl, po, rfl, ⟨_, sqL epo14⟩, fun D2 nD2 => ?_⟩
        refine lc_it (walk_list (K := K) (a := po) (xs := posts.map V.int)) (LcP H15 D2 fun j out2 H16 => out2 = (postsIn (posts.take j) g.2).map V.int)
          (LcP.start nD2 rfl) (fun j H16 _ p => ?_) (fun j x H16 H17 hj p y => ?_) (fun H16 p => ?_)
        · obtain ⟨out2, _, s16, _⟩ := p
          exact s16.seq (sqL epo14)
        · obtain ⟨out2, hl2, s16, e16, eo2⟩ := p
          obtain ⟨rfl, hx⟩ := y
          obtain ⟨z, ez, rfl⟩ := ints_at hx
          refine ⟨rfl, .int z, rfl, .ref g.1, rfl, g.1, g.2.map V.int, rfl, .inl (sqL (s16 _ _ eg)), rfl, flat_ints g.2, ?_⟩
          rw [inV_ints, if_neg Bool.false_ne_true]
          refine ⟨_, rfl, ite2 (fun c => ?_) (fun c => ?_)⟩
          · refine ⟨.int z, rfl, ?_⟩
            refine LcP.push nD2 hj (by rw [List.length_map]; omega) hl2 s16 e16 ?_
            rw [postsIn, take_more ez, filter_more, if_pos c, List.map_append, eo2] <;> rfl
          · refine LcP.skip hl2 s16 e16 ?_
            rw [postsIn, take_more ez, filter_more, if_neg c, eo2] <;> rfl
        · obtain ⟨out2, hl2, s16, e16, eo2⟩ := p
          rw [List.length_map, List.take_length] at eo2
          refine ⟨D2, _, rfl, .inl (sqL e16), ?_⟩
          refine LcP.push nD hi (by rw [List.length_map]; have := hF.few; omega) hl (s14.trans s16) (s16 _ _ e14) ?_
          rw [take_more hv, List.map_append, eo, eo2, List.length_map] <;> rfl
      · obtain ⟨out, hl, s14, e14, eo⟩ := p
        rw [List.take_of_length_le (by rw [List.length_map, List.length_map]; exact Nat.le_refl _)] at eo
        subst eo
        have hfpos : 0 < (vals fs).length := by
          obtain ⟨Q0, hQ0, _⟩ := hF.ok.cov 0 (Int.le_refl _) (by omega)
          exact List.length_pos_of_mem hQ0
        refine ⟨D, (vals fs).map fun P => ((postsIn posts P).length : Int), rfl, by rw [List.map_map]; exact sqL e14, by rw [List.length_map]; exact hfpos, fun m hm hmx => ?_⟩
        have hmost : m < 2 ↔ Parting (kept (vals ts) (vals ps)) posts := by
          rw [← hF.ok.parting hpnd hprg]
          constructor
          · intro h P hP
            have := hmx _ (List.mem_map.mpr ⟨P, hP, rfl⟩)
            omega
          · intro h
            obtain ⟨P, hP, rfl⟩ := List.mem_map.mp hm
            have := h P hP
            omega
        have s114 := s11'.trans s14
        have hW14 := hW13.same s14
        have hC14 := hC13.same s14
        have hF14 := hF.same s14
        have epo14 := s14 _ _ epo13
        have s014 := s013.trans s14
        refine ⟨.ref W, rfl, .ref po, rfl, .ref cc, rfl, W, po, cc, n, ts, posts, ps, rfl, hW14, hR, hz1, hn64, epo14, hpf1, hpnd, hprg, hC14, hCl1, fun H15 b s15 hb => ?_⟩
        refine ⟨.int m, rfl, m, 2, rfl, rfl, rfl, _, rfl, ite2 (fun c => ?_) (fun _ => ?_)⟩
        · exfalso
          have e : b = decide (m < 2) := by
            rw [Bool.eq_iff_iff, decide_eq_true_eq, hb, hmost]
          rw [e] at c
          simp at c
        have hW15 := hW14.same s15
        have hC15 := hC14.same s15
        have hF15 := hF14.same s15
        have epo15 := s15 _ _ epo14
        have s015 := s014.trans s15
        obtain ⟨t0, eW15, _⟩ := hW15.ex
        refine ⟨(by show 1 ≤ sizeLine; decide), fun z0 nz0 => ?_⟩
        have s16 : Same H15 (upd H15 z0 (.lst [.int 0])) := same_upd nz0
        refine ⟨.ref W, rfl, W, _, 0, .int n, rfl, rfl, sqT (s16 _ _ eW15), atI_nat (j := 0) rfl, z0, n, _, rfl, rfl, upd_same, by omega, by omega, ?_, fun nm nnm => ?_⟩
        · rw [List.length_singleton, sizeLine_eq]; omega
        have s17 := s16.trans (same_upd (o := .lst (List.replicate (Int.toNat (n : Int)) [V.int 0]).flatten) nnm)
        have nnm15 := s16.free nnm
        have enm17 : (upd (upd H15 z0 (.lst [.int 0])) nm (.lst (List.replicate (Int.toNat (n : Int)) [V.int 0]).flatten)) nm = some (.lst ((List.replicate n (0 : Int)).map V.int)) := by
          rw [upd_same, Int.toNat_natCast, flat_rep, List.map_replicate]
        have hF17 := hF15.same s17
        have hsnm : so ≠ nm := ne_of_none hF15.lst nnm15
        have hgnm : ∀ g ∈ fs, g.1 ≠ nm := fun g hg => ne_of_none (hF15.each g hg) nnm15
        refine ⟨.ref so, rfl, so, _, rfl, sqL hF17.lst, ?_⟩
        refine for_it (walk_enum (K := K) (a := so) (xs := refs fs)) (fun i σ H4 => ∃ (y8 y11 y12 : Option V) (nms : List Int), σ = [some (.ref a), some (.int (0 + i')), some (.ref bx), some (.ref W), some (.ref po), some (.ref own), some (.ref cc), some (.ref so), y8, some (.int m), some (.ref nm), y11, y12, y13, y14, y15, y16, y17] ∧ Same H15 H4 ∧ H4 nm = some (.lst (nms.map V.int)) ∧ Tb nms n (nameAt (vals fs) i))
          ⟨_, _, _, List.replicate n 0, rfl, s17, enm17, ⟨List.length_replicate, fun j hj => by rw [List.getElem?_replicate, if_pos hj] <;> rfl⟩⟩ (fun i σ H4 _ p => ?_) (fun i x σ H4 H4' hi p y => ?_) (fun σ H4 p => ?_)
        · obtain ⟨_, _, _, _, _, s4, _⟩ := p
          exact sqL (s4 _ _ hF15.lst)
        · obtain ⟨y8, y11, y12, nms, rfl, s4, enm, hT⟩ := p
          obtain ⟨Tp, x1, x2, rfl, nTp, rfl, ex1, ex2⟩ := y
          cases ex1
          obtain ⟨g, hg, rfl⟩ := refs_at ex2
          have hgm := List.mem_of_getElem? hg
          have hv : (vals fs)[i]? = some g.2 := by rw [List.getElem?_map, hg] <;> rfl
          have hgP : g.2 ∈ vals fs := List.mem_of_getElem? hv
          have s5 : Same H4 (upd H4 Tp (.tup [.int (i : Nat), .ref g.1])) := same_upd nTp
          refine ⟨Tp, _, rfl, sqT upd_same, rfl, _, _, rfl, _, _, rfl, rfl, ?_⟩
          have s45 := s4.trans s5
          have enm5 := s5 _ _ enm
          generalize upd H4 Tp (.tup [.int (i : Nat), .ref g.1]) = H5 at s5 s45 enm5
          have eg5 := s45 _ _ (hF15.each g hgm)
          refine ⟨.ref g.1, rfl, g.1, rfl, ⟨_, sqL eg5⟩, ?_⟩
          refine for_list (K := K) (a := g.1) (xs := g.2.map V.int) (fun j σ H6 => ∃ (y12 : Option V) (nms : List Int), σ = [some (.ref a), some (.int (0 + i')), some (.ref bx), some (.ref W), some (.ref po), some (.ref own), some (.ref cc), some (.ref so), some (.ref g.1), some (.int m), some (.ref nm), some (.int (i : Nat)), y12, y13, y14, y15, y16, y17] ∧ Same H15 H6 ∧ H6 nm = some (.lst (nms.map V.int)) ∧ Tb nms n (fun x => if x ∈ g.2.take j then (i : Int) else nameAt (vals fs) i x))
            ⟨y12, nms, rfl, s45, enm5, hT.1, fun j hj => by rw [hT.2 j hj, List.take_zero] <;> rfl⟩ (fun j σ H6 _ p => ?_) (fun j v σ H6 hv6 p => ?_) (fun σ H6 p => ?_)
          · obtain ⟨_, _, _, s6, _⟩ := p
            exact sqL (s6 _ _ (hF15.each g hgm))
          · obtain ⟨y12, nms, rfl, s6, enm6, hT6⟩ := p
            obtain ⟨x, ex, rfl⟩ := ints_at hv6
            have hxr := hF.ok.range hRk hgP (List.mem_of_getElem? ex)
            have ex2 : ((x.toNat : Nat) : Int) = x := Int.toNat_of_nonneg hxr.1
            refine ⟨.int (i : Nat), rfl, .ref nm, rfl, .int x, rfl, nm, _, x, x.toNat, rfl, rfl, enm6, ix_of (by rw [List.length_map, hT6.1]; exact hxr), ?_⟩
            have hT7 := hT6.set x.toNat (i : Int)
            refine ⟨_, nms.set x.toNat i, rfl, same_at s6 nnm15, by rw [upd_same, List.map_set], hT7.1, fun j' hj' => ?_⟩
            rw [hT7.2 j' hj', ex2, take_more ex]
            show some (if (j' : Int) = x then (i : Int) else if (j' : Int) ∈ g.2.take j then (i : Int) else nameAt (vals fs) i j') = some (if (j' : Int) ∈ g.2.take j ++ [x] then (i : Int) else nameAt (vals fs) i j')
            congr 1
            by_cases e : (j' : Int) = x
            · rw [if_pos e, if_pos (by rw [e]; exact List.mem_append_right _ (List.mem_singleton.mpr rfl))]
            · rw [if_neg e]
              by_cases m' : (j' : Int) ∈ g.2.take j
              · rw [if_pos m', if_pos (List.mem_append_left _ m')]
              · rw [if_neg m', if_neg fun q => by rcases List.mem_append.mp q with q | q; exact m' q; exact e (List.mem_singleton.mp q)]
          · obtain ⟨y12, nms, rfl, s6, enm6, hT6⟩ := p
            rw [List.length_map, List.take_length] at hT6
            refine ⟨_, _, _, nms, rfl, s6, enm6, hT6.1, fun j hj => ?_⟩
            rw [hT6.2 j hj]
            show some (if (j : Int) ∈ g.2 then (i : Int) else nameAt (vals fs) i j) = some (if (j : Int) ∈ (vals fs).getD i [] then (i : Int) else nameAt (vals fs) i j)
            rw [List.getD_eq_getElem?_getD, hv] <;> rfl
        · obtain ⟨y8, y11, y12, nms, rfl, s4, enm, hT⟩ := p
          generalize (refs fs).length = kf at hT
          have s7 : ∀ {N : Addr} {o : HO}, H4 N = none → Same H15 (upd H4 N o) := fun h => s4.trans (same_upd h)
          refine ⟨.ref W, rfl, .ref nm, rfl, nm, _, rfl, .inl ⟨sqL enm, fun N nN => ?_⟩⟩
          refine ⟨W, N, n, ts, nms, nameAt (vals fs) kf, rfl, hW15.same (s7 nN), hR, hz1, upd_same, hT.1, by omega, hT.2, fun H8 lp s8 hS8 => ?_⟩
          have s48 : Same H4 H8 := (same_upd nN).trans s8
          have s158 := s4.trans s48
          have enm8 := s48 _ _ enm
          have hC8 := hC15.same s158
          refine ⟨.ref cc, rfl, cc, rfl, ⟨_, sqL hC8.lst⟩, fun D nD => ?_⟩
          refine lc_it (walk_list (K := K) (a := cc) (xs := refs ps)) (LcP H8 D fun i out H9 => out = refs ((ps.take i).filter fun p => !decide (nameAt (vals fs) kf p.2.1 = nameAt (vals fs) kf p.2.2)))
            (LcP.start nD rfl) (fun i H9 _ p => ?_) (fun i x H9 H10 hi p y => ?_) (fun H9 p => ?_)
          · obtain ⟨out, _, s9, _⟩ := p
            exact s9.seq (sqL hC8.lst)
          · obtain ⟨out, hl, s9, e9, eo⟩ := p
            obtain ⟨rfl, hx⟩ := y
            obtain ⟨c, hc, rfl⟩ := refs_at hx
            have hcm := List.mem_of_getElem? hc
            have ec9 := s9 _ _ (hC8.each c hcm)
            have enm9 := s9 _ _ enm8
            obtain ⟨g1, g2⟩ := hCr c.2 (List.mem_map.mpr ⟨c, hcm, rfl⟩)
            obtain ⟨i1, e1, h1⟩ := nat_of g1
            obtain ⟨i2, e2, h2⟩ := nat_of g2
            have ga : atI (nms.map V.int) c.2.1 = some (.int (nameAt (vals fs) kf c.2.1)) := by
              rw [e1]
              exact atI_nat (by rw [List.getElem?_map, hT.2 i1 h1] <;> rfl)
            have gb : atI (nms.map V.int) c.2.2 = some (.int (nameAt (vals fs) kf c.2.2)) := by
              rw [e2]
              exact atI_nat (by rw [List.getElem?_map, hT.2 i2 h2] <;> rfl)
            refine ⟨rfl, .ref nm, rfl, .ref c.1, rfl, c.1, _, 0, .int c.2.1, rfl, rfl, sqT ec9, atI_nat (j := 0) rfl, nm, _, c.2.1, _, rfl, rfl, sqL enm9, ga, .ref nm, rfl, .ref c.1, rfl, c.1, _, 1, .int c.2.2, rfl, rfl, sqT ec9, atI_nat (j := 1) rfl, nm, _, c.2.2, _, rfl, rfl, sqL enm9, gb, rfl, _, rfl, ?_⟩
            have hd : (!decide (V.int (nameAt (vals fs) kf c.2.1) = V.int (nameAt (vals fs) kf c.2.2))) = !decide (nameAt (vals fs) kf c.2.1 = nameAt (vals fs) kf c.2.2) := by
              rw [dec_int] <;> rfl
            rw [hd]
            refine ite2 (fun z => ?_) (fun z => ?_)
            · refine ⟨.ref c.1, rfl, ?_⟩
              refine LcP.push nD hi (by rw [List.length_map]; omega) hl s9 e9 ?_
              rw [take_more hc, filter_more, if_pos z, eo]
              exact (refs_snoc _ c).symm
            · refine LcP.skip hl s9 e9 ?_
              rw [take_more hc, filter_more, if_neg z, eo]
          · obtain ⟨out, hl, s9, e9, eo⟩ := p
            rw [List.length_map, List.take_length] at eo
            have hCD : CutAt H9 D (ps.filter fun p => !decide (nameAt (vals fs) kf p.2.1 = nameAt (vals fs) kf p.2.2)) := ⟨by rw [e9, eo], fun c hc => s9 _ _ (hC8.each c (List.mem_filter.mp hc).1)⟩
            have hDl : (ps.filter fun p => !decide (nameAt (vals fs) kf p.2.1 = nameAt (vals fs) kf p.2.2)).length ≤ 1000 := Nat.le_trans (List.length_filter_le _ _) hCl1
            obtain ⟨mm, Tl, rs, elp, eTl, hrs, hrl, hsum⟩ := hS8
            have elp9 := s9 _ _ elp
            have eTl9 := s9 _ _ eTl
            have hrs9 : ∀ t ∈ rs, H9 t.1 = some (.tup (tieV t.2)) := fun t ht => s9 _ _ (hrs t ht)
            have s159 := s158.trans s9
            refine ⟨.ref lp, rfl, lp, _, 1, .ref Tl, rfl, rfl, sqT elp9, atI_nat (j := 1) rfl, Tl, rfl, ⟨_, sqT eTl9⟩, fun D2 nD2 => ?_⟩
            refine lc_it (walk_tup (K := K) (a := Tl) (xs := refs rs)) (LcP H9 D2 fun i out H10 => out = (((vals rs).take i).map fun t => V.int t.2.2))
              (LcP.start nD2 rfl) (fun i H10 _ p => ?_) (fun i x H10 H11 hi p y => ?_) (fun H10 p => ?_)
            · obtain ⟨out, _, s10, _⟩ := p
              exact Same.tup s10 (sqT eTl9)
            · obtain ⟨out, hl, s10, e10, eo⟩ := p
              obtain ⟨rfl, hx⟩ := y
              obtain ⟨t, ht, rfl⟩ := refs_at hx
              have hv : (vals rs)[i]? = some t.2 := by rw [List.getElem?_map, ht] <;> rfl
              refine ⟨rfl, .ref t.1, rfl, t.1, _, 2, .int t.2.2.2, rfl, rfl, sqT (s10 _ _ (hrs9 t (List.mem_of_getElem? ht))), atI_nat (j := 2) rfl, ?_⟩
              refine LcP.push nD2 hi (by rw [List.length_map]; omega) hl s10 e10 ?_
              rw [take_more hv, List.map_append, eo] <;> rfl
            · obtain ⟨out, hl, s10, e10, eo⟩ := p
              rw [List.take_of_length_le (by rw [List.length_map, List.length_map]; exact Nat.le_refl _)] at eo
              subst eo
              have s1510 := s159.trans s10
              refine ⟨D2, (vals rs).map (·.2.2), rfl, by rw [List.map_map]; exact sqL e10, .ref W, rfl, .ref D, rfl, W, D, n, ts, _, rfl, hW15.same s1510, hCD.same s10, hz1, hDl, fun H11 s11 => ⟨rfl, _, rfl, ite2 (fun z => ?_) (fun _ => ?_)⟩⟩
              · exfalso
                have e : ((vals rs).map (·.2.2)).sum = wsum (vals ts) (vals (ps.filter fun p => !decide (nameAt (vals fs) kf p.2.1 = nameAt (vals fs) kf p.2.2))) := by
                  rw [hsum, vals_filter (fun p : Int × Int => !decide (nameAt (vals fs) kf p.1 = nameAt (vals fs) kf p.2))]
                  exact between_sum hR hF.ok kf
                rw [e] at z
                simp at z
              have s1511 := s1510.trans s11
              have done : ∀ {H12 : Hp}, Same H11 H12 → Same H H12 := fun s => s015.trans (s1511.trans s)
              refine ⟨.int m, rfl, m, 2, rfl, rfl, _, rfl, ite2 (fun z => ?_) (fun z => ?_)⟩
              · have hPt := hmost.mp (of_decide_eq_true z)
                refine ⟨.ref W, rfl, .ref po, rfl, .ref cc, rfl, .ref so, rfl, W, po, cc, so, n, ts, posts, ps, fs, rfl, hW15.same s1511, hR, hz, hn, s1511 _ _ epo15, hpnd, hprg, hpne, hpf, hC15.same s1511, hCl, hF15.same s1511, hPt, fun H12 s12 => ⟨true, rfl, ?_⟩⟩
                exact ⟨_, _, _, _, _, _, _, _, _, _, _, _, _, _, _, _, _, rfl, done s12⟩
              · exact ⟨_, _, _, _, _, _, _, _, _, _, _, _, _, _, _, _, _, rfl, done (.refl _)⟩
    · exact q H4
end
end K8

/-! what the top has written; the law's own head -/
namespace K8
open PySem PySem.Spec PyProof.Rows L2 K8S
theorem all_mk {l : PySem.W.OpenLaw} {w : World} {K : PySem.W.Frag} {h : Heap} {mg : Str → Option Value} {fa f1 f2 f3 f4 f5 f6 f7 f8 f9 f10 f11 f12 f13 f14 f15 f16 f17 f18 f19 f20 f21 f22 f23 f24 f25 f26 : Addr} (X : K.In h) (G : h.Ns mainGlobals mg) (hfa : mg "law" = some (.ref fa))
    {od1 an1 od2 an2 od3 an3 od4 an4 od5 an5 od6 an6 od7 an7 od8 an8 od9 an9 od10 an10 od11 an11 od12 an12 od13 an13 od14 an14 od15 an15 od16 an16 od17 an17 od18 an18 od19 an19 od20 an20 od21 an21 od22 an22 od23 an23 od24 an24 od25 an25 od26 an26 : Option Addr} {sl1 sl2 sl3 sl4 sl5 sl6 sl7 sl8 sl9 sl10 sl11 sl12 sl13 sl14 sl15 sl16 sl17 sl18 sl19 sl20 sl21 sl22 sl23 sl24 sl25 sl26 : Array (Option Value)} {oc1 kV1 dc1 pm1 cd1 ct1 oc2 kV2 dc2 pm2 cd2 ct2 oc3 kV3 dc3 pm3 cd3 ct3 oc4 kV4 dc4 pm4 cd4 ct4 oc5 kV5 dc5 pm5 cd5 ct5 oc6 kV6 dc6 pm6 cd6 ct6 oc7 kV7 dc7 pm7 cd7 ct7 oc8 kV8 dc8 pm8 cd8 ct8 oc9 kV9 dc9 pm9 cd9 ct9 oc10 kV10 dc10 pm10 cd10 ct10 oc11 kV11 dc11 pm11 cd11 ct11 oc12 kV12 dc12 pm12 cd12 ct12 oc13 kV13 dc13 pm13 cd13 ct13 oc14 kV14 dc14 pm14 cd14 ct14 oc15 kV15 dc15 pm15 cd15 ct15 oc16 kV16 dc16 pm16 cd16 ct16 oc17 kV17 dc17 pm17 cd17 ct17 oc18 kV18 dc18 pm18 cd18 ct18 oc19 kV19 dc19 pm19 cd19 ct19 oc20 kV20 dc20 pm20 cd20 ct20 oc21 kV21 dc21 pm21 cd21 ct21 oc22 kV22 dc22 pm22 cd22 ct22 oc23 kV23 dc23 pm23 cd23 ct23 oc24 kV24 dc24 pm24 cd24 ct24 oc25 kV25 dc25 pm25 cd25 ct25 oc26 kV26 dc26 pm26 cd26 ct26 : Value}
    (a1 : PySem.W.nsIn K mainGlobals "pairs_cut" = some (some (.ref f1))) (l1 : K.lookup f1 = some ⟨oc1, od1, .func (PySem.W.fnOf "pairs_cut" "pairs_cut" (defArgs sPairsCut) (defBody sPairsCut) (defScope sPairsCut) .none kV1 dc1 pm1 an1 cd1 ct1), sl1⟩) (c1 : PySem.W.codeIn K cd1 "pairs_cut" = true) (k1 : PySem.W.keepIn K (.ref f1) = true)
    (a2 : PySem.W.nsIn K mainGlobals "weight_of" = some (some (.ref f2))) (l2 : K.lookup f2 = some ⟨oc2, od2, .func (PySem.W.fnOf "weight_of" "weight_of" (defArgs sWeightOf) (defBody sWeightOf) (defScope sWeightOf) .none kV2 dc2 pm2 an2 cd2 ct2), sl2⟩) (c2 : PySem.W.codeIn K cd2 "weight_of" = true) (k2 : PySem.W.keepIn K (.ref f2) = true)
    (a3 : PySem.W.nsIn K mainGlobals "without" = some (some (.ref f3))) (l3 : K.lookup f3 = some ⟨oc3, od3, .func (PySem.W.fnOf "without" "without" (defArgs sWithout) (defBody sWithout) (defScope sWithout) .none kV3 dc3 pm3 an3 cd3 ct3), sl3⟩) (c3 : PySem.W.codeIn K cd3 "without" = true) (k3 : PySem.W.keepIn K (.ref f3) = true)
    (a4 : PySem.W.nsIn K mainGlobals "beside" = some (some (.ref f4))) (l4 : K.lookup f4 = some ⟨oc4, od4, .func (PySem.W.fnOf "beside" "beside" (defArgs sBeside) (defBody sBeside) (defScope sBeside) .none kV4 dc4 pm4 an4 cd4 ct4), sl4⟩) (c4 : PySem.W.codeIn K cd4 "beside" = true) (k4 : PySem.W.keepIn K (.ref f4) = true)
    (a5 : PySem.W.nsIn K mainGlobals "hangs_on" = some (some (.ref f5))) (l5 : K.lookup f5 = some ⟨oc5, od5, .func (PySem.W.fnOf "hangs_on" "hangs_on" (defArgs sHangsOn) (defBody sHangsOn) (defScope sHangsOn) .none kV5 dc5 pm5 an5 cd5 ct5), sl5⟩) (c5 : PySem.W.codeIn K cd5 "hangs_on" = true) (k5 : PySem.W.keepIn K (.ref f5) = true)
    (a6 : PySem.W.nsIn K mainGlobals "pieces" = some (some (.ref f6))) (l6 : K.lookup f6 = some ⟨oc6, od6, .func (PySem.W.fnOf "pieces" "pieces" (defArgs sPieces) (defBody sPieces) (defScope sPieces) .none kV6 dc6 pm6 an6 cd6 ct6), sl6⟩) (c6 : PySem.W.codeIn K cd6 "pieces" = true) (k6 : PySem.W.keepIn K (.ref f6) = true)
    (a7 : PySem.W.nsIn K mainGlobals "merged" = some (some (.ref f7))) (l7 : K.lookup f7 = some ⟨oc7, od7, .func (PySem.W.fnOf "merged" "merged" (defArgs sMerged) (defBody sMerged) (defScope sMerged) .none kV7 dc7 pm7 an7 cd7 ct7), sl7⟩) (c7 : PySem.W.codeIn K cd7 "merged" = true) (k7 : PySem.W.keepIn K (.ref f7) = true)
    (a8 : PySem.W.nsIn K mainGlobals "posts_in" = some (some (.ref f8))) (l8 : K.lookup f8 = some ⟨oc8, od8, .func (PySem.W.fnOf "posts_in" "posts_in" (defArgs sPostsIn) (defBody sPostsIn) (defScope sPostsIn) .none kV8 dc8 pm8 an8 cd8 ct8), sl8⟩) (c8 : PySem.W.codeIn K cd8 "posts_in" = true) (k8 : PySem.W.keepIn K (.ref f8) = true)
    (a9 : PySem.W.nsIn K mainGlobals "is_parting" = some (some (.ref f9))) (l9 : K.lookup f9 = some ⟨oc9, od9, .func (PySem.W.fnOf "is_parting" "is_parting" (defArgs sIsParting) (defBody sIsParting) (defScope sIsParting) .none kV9 dc9 pm9 an9 cd9 ct9), sl9⟩) (c9 : PySem.W.codeIn K cd9 "is_parting" = true) (k9 : PySem.W.keepIn K (.ref f9) = true)
    (a10 : PySem.W.nsIn K mainGlobals "cut_by" = some (some (.ref f10))) (l10 : K.lookup f10 = some ⟨oc10, od10, .func (PySem.W.fnOf "cut_by" "cut_by" (defArgs sCutBy) (defBody sCutBy) (defScope sCutBy) .none kV10 dc10 pm10 an10 cd10 ct10), sl10⟩) (c10 : PySem.W.codeIn K cd10 "cut_by" = true) (k10 : PySem.W.keepIn K (.ref f10) = true)
    (a11 : PySem.W.nsIn K mainGlobals "owners_of" = some (some (.ref f11))) (l11 : K.lookup f11 = some ⟨oc11, od11, .func (PySem.W.fnOf "owners_of" "owners_of" (defArgs sOwnersOf) (defBody sOwnersOf) (defScope sOwnersOf) .none kV11 dc11 pm11 an11 cd11 ct11), sl11⟩) (c11 : PySem.W.codeIn K cd11 "owners_of" = true) (k11 : PySem.W.keepIn K (.ref f11) = true)
    (a12 : PySem.W.nsIn K mainGlobals "by_weight" = some (some (.ref f12))) (l12 : K.lookup f12 = some ⟨oc12, od12, .func (PySem.W.fnOf "by_weight" "by_weight" (defArgs sByWeight) (defBody sByWeight) (defScope sByWeight) .none kV12 dc12 pm12 an12 cd12 ct12), sl12⟩) (c12 : PySem.W.codeIn K cd12 "by_weight" = true) (k12 : PySem.W.keepIn K (.ref f12) = true)
    (a13 : PySem.W.nsIn K mainGlobals "pruned" = some (some (.ref f13))) (l13 : K.lookup f13 = some ⟨oc13, od13, .func (PySem.W.fnOf "pruned" "pruned" (defArgs sPruned) (defBody sPruned) (defScope sPruned) .none kV13 dc13 pm13 an13 cd13 ct13), sl13⟩) (c13 : PySem.W.codeIn K cd13 "pruned" = true) (k13 : PySem.W.keepIn K (.ref f13) = true)
    (a14 : PySem.W.nsIn K mainGlobals "_law_cell_at" = some (some (.ref f14))) (l14 : K.lookup f14 = some ⟨oc14, od14, .func (PySem.W.fnOf "_law_cell_at" "_law_cell_at" (defArgs sLCellAt) (defBody sLCellAt) (defScope sLCellAt) .none kV14 dc14 pm14 an14 cd14 ct14), sl14⟩) (c14 : PySem.W.codeIn K cd14 "_law_cell_at" = true) (k14 : PySem.W.keepIn K (.ref f14) = true)
    (a15 : PySem.W.nsIn K mainGlobals "_law_box" = some (some (.ref f15))) (l15 : K.lookup f15 = some ⟨oc15, od15, .func (PySem.W.fnOf "_law_box" "_law_box" (defArgs sLBox) (defBody sLBox) (defScope sLBox) .none kV15 dc15 pm15 an15 cd15 ct15), sl15⟩) (c15 : PySem.W.codeIn K cd15 "_law_box" = true) (k15 : PySem.W.keepIn K (.ref f15) = true)
    (a16 : PySem.W.nsIn K mainGlobals "_law_take" = some (some (.ref f16))) (l16 : K.lookup f16 = some ⟨oc16, od16, .func (PySem.W.fnOf "_law_take" "_law_take" (defArgs sLTake) (defBody sLTake) (defScope sLTake) .none kV16 dc16 pm16 an16 cd16 ct16), sl16⟩) (c16 : PySem.W.codeIn K cd16 "_law_take" = true) (k16 : PySem.W.keepIn K (.ref f16) = true)
    (a17 : PySem.W.nsIn K mainGlobals "_law_many" = some (some (.ref f17))) (l17 : K.lookup f17 = some ⟨oc17, od17, .func (PySem.W.fnOf "_law_many" "_law_many" (defArgs sLMany) (defBody sLMany) (defScope sLMany) .none kV17 dc17 pm17 an17 cd17 ct17), sl17⟩) (c17 : PySem.W.codeIn K cd17 "_law_many" = true) (k17 : PySem.W.keepIn K (.ref f17) = true)
    (a18 : PySem.W.nsIn K mainGlobals "_law_weight" = some (some (.ref f18))) (l18 : K.lookup f18 = some ⟨oc18, od18, .func (PySem.W.fnOf "_law_weight" "_law_weight" (defArgs sLWeight) (defBody sLWeight) (defScope sLWeight) .none kV18 dc18 pm18 an18 cd18 ct18), sl18⟩) (c18 : PySem.W.codeIn K cd18 "_law_weight" = true) (k18 : PySem.W.keepIn K (.ref f18) = true)
    (a19 : PySem.W.nsIn K mainGlobals "_law_web" = some (some (.ref f19))) (l19 : K.lookup f19 = some ⟨oc19, od19, .func (PySem.W.fnOf "_law_web" "_law_web" (defArgs sLWeb) (defBody sLWeb) (defScope sLWeb) .none kV19 dc19 pm19 an19 cd19 ct19), sl19⟩) (c19 : PySem.W.codeIn K cd19 "_law_web" = true) (k19 : PySem.W.keepIn K (.ref f19) = true)
    (a20 : PySem.W.nsIn K mainGlobals "_law_posts" = some (some (.ref f20))) (l20 : K.lookup f20 = some ⟨oc20, od20, .func (PySem.W.fnOf "_law_posts" "_law_posts" (defArgs sLPosts) (defBody sLPosts) (defScope sLPosts) .none kV20 dc20 pm20 an20 cd20 ct20), sl20⟩) (c20 : PySem.W.codeIn K cd20 "_law_posts" = true) (k20 : PySem.W.keepIn K (.ref f20) = true)
    (a21 : PySem.W.nsIn K mainGlobals "_law_with_posts" = some (some (.ref f21))) (l21 : K.lookup f21 = some ⟨oc21, od21, .func (PySem.W.fnOf "_law_with_posts" "_law_with_posts" (defArgs sLWithPosts) (defBody sLWithPosts) (defScope sLWithPosts) .none kV21 dc21 pm21 an21 cd21 ct21), sl21⟩) (c21 : PySem.W.codeIn K cd21 "_law_with_posts" = true) (k21 : PySem.W.keepIn K (.ref f21) = true)
    (a22 : PySem.W.nsIn K mainGlobals "_law_cut" = some (some (.ref f22))) (l22 : K.lookup f22 = some ⟨oc22, od22, .func (PySem.W.fnOf "_law_cut" "_law_cut" (defArgs sLCut) (defBody sLCut) (defScope sLCut) .none kV22 dc22 pm22 an22 cd22 ct22), sl22⟩) (c22 : PySem.W.codeIn K cd22 "_law_cut" = true) (k22 : PySem.W.keepIn K (.ref f22) = true)
    (a23 : PySem.W.nsIn K mainGlobals "_law_owners" = some (some (.ref f23))) (l23 : K.lookup f23 = some ⟨oc23, od23, .func (PySem.W.fnOf "_law_owners" "_law_owners" (defArgs sLOwners) (defBody sLOwners) (defScope sLOwners) .none kV23 dc23 pm23 an23 cd23 ct23), sl23⟩) (c23 : PySem.W.codeIn K cd23 "_law_owners" = true) (k23 : PySem.W.keepIn K (.ref f23) = true)
    (a24 : PySem.W.nsIn K mainGlobals "_law_cut_of" = some (some (.ref f24))) (l24 : K.lookup f24 = some ⟨oc24, od24, .func (PySem.W.fnOf "_law_cut_of" "_law_cut_of" (defArgs sLCutOf) (defBody sLCutOf) (defScope sLCutOf) .none kV24 dc24 pm24 an24 cd24 ct24), sl24⟩) (c24 : PySem.W.codeIn K cd24 "_law_cut_of" = true) (k24 : PySem.W.keepIn K (.ref f24) = true)
    (a25 : PySem.W.nsIn K mainGlobals "_law_parting_right" = some (some (.ref f25))) (l25 : K.lookup f25 = some ⟨oc25, od25, .func (PySem.W.fnOf "_law_parting_right" "_law_parting_right" (defArgs sLPartingRight) (defBody sLPartingRight) (defScope sLPartingRight) .none kV25 dc25 pm25 an25 cd25 ct25), sl25⟩) (c25 : PySem.W.codeIn K cd25 "_law_parting_right" = true) (k25 : PySem.W.keepIn K (.ref f25) = true)
    (a26 : PySem.W.nsIn K mainGlobals "law" = some (some (.ref f26))) (l26 : K.lookup f26 = some ⟨oc26, od26, .func (PySem.W.fnOf "law" "law" (defArgs sLaw) (defBody sLaw) (defScope sLaw) .none kV26 dc26 pm26 an26 cd26 ct26), sl26⟩) (c26 : PySem.W.codeIn K cd26 "law" = true) (k26 : PySem.W.keepIn K (.ref f26) = true)
    (z1 : PySem.W.nsIn K mainGlobals "dict" = some none)
    (z2 : PySem.W.nsIn K mainGlobals "tuple" = some none)
    (z3 : PySem.W.nsIn K mainGlobals "sum" = some none)
    (z4 : PySem.W.nsIn K mainGlobals "range" = some none)
    (z5 : PySem.W.nsIn K mainGlobals "len" = some none)
    (z6 : PySem.W.nsIn K mainGlobals "sorted" = some none)
    (z7 : PySem.W.nsIn K mainGlobals "min" = some none)
    (z8 : PySem.W.nsIn K mainGlobals "max" = some none)
    (z9 : PySem.W.nsIn K mainGlobals "all" = some none)
    (z10 : PySem.W.nsIn K mainGlobals "abs" = some none)
    (z11 : PySem.W.nsIn K mainGlobals "int" = some none)
    (z12 : PySem.W.nsIn K mainGlobals "list" = some none)
    (z13 : PySem.W.nsIn K mainGlobals "set" = some none)
    (z14 : PySem.W.nsIn K mainGlobals "enumerate" = some none)
    : ∃ fd : FuncData, (∀ (s : Shared) (v : Value), BindsTo s fd ⟨[v], []⟩ [("_law_script", v)]) ∧ ∀ base : Heap, K.In base → base.Ns mainGlobals mg → FnOk l.prog w K mg base CX0 6 fa fd ["_law_script"] (spLaw K) := by
  have e := hfa.symm.trans (PySem.W.mg_of X G a26)
  cases e
  have T : Mg mg := ⟨PySem.W.mg_none_of X G z1, PySem.W.mg_none_of X G z2, PySem.W.mg_none_of X G z3, PySem.W.mg_none_of X G z4, PySem.W.mg_none_of X G z5, PySem.W.mg_none_of X G z6, PySem.W.mg_none_of X G z7, PySem.W.mg_none_of X G z8, PySem.W.mg_none_of X G z9, PySem.W.mg_none_of X G z10, PySem.W.mg_none_of X G z11, PySem.W.mg_none_of X G z12, PySem.W.mg_none_of X G z13, PySem.W.mg_none_of X G z14⟩
  have F1 := fun_mk (st := sPairsCut) l1 c1 k1
  have b1 := F1.binds (ps := ["cut"]) fun _ _ _ _ _ _ us hl => match us, hl with | [_], _ => rfl
  have F2 := fun_mk (st := sWeightOf) l2 c2 k2
  have b2 := F2.binds (ps := ["web", "cut"]) fun _ _ _ _ _ _ us hl => match us, hl with | [_, _], _ => rfl
  have F3 := fun_mk (st := sWithout) l3 c3 k3
  have b3 := F3.binds (ps := ["web", "cut"]) fun _ _ _ _ _ _ us hl => match us, hl with | [_, _], _ => rfl
  have F4 := fun_mk (st := sBeside) l4 c4 k4
  have b4 := F4.binds (ps := ["web"]) fun _ _ _ _ _ _ us hl => match us, hl with | [_], _ => rfl
  have F5 := fun_mk (st := sHangsOn) l5 c5 k5
  have b5 := F5.binds (ps := ["near", "place"]) fun _ _ _ _ _ _ us hl => match us, hl with | [_, _], _ => rfl
  have F6 := fun_mk (st := sPieces) l6 c6 k6
  have b6 := F6.binds (ps := ["web"]) fun _ _ _ _ _ _ us hl => match us, hl with | [_], _ => rfl
  have F7 := fun_mk (st := sMerged) l7 c7 k7
  have b7 := F7.binds (ps := ["web", "names"]) fun _ _ _ _ _ _ us hl => match us, hl with | [_, _], _ => rfl
  have F8 := fun_mk (st := sPostsIn) l8 c8 k8
  have b8 := F8.binds (ps := ["posts", "piece"]) fun _ _ _ _ _ _ us hl => match us, hl with | [_, _], _ => rfl
  have F9 := fun_mk (st := sIsParting) l9 c9 k9
  have b9 := F9.binds (ps := ["web", "posts", "cut"]) fun _ _ _ _ _ _ us hl => match us, hl with | [_, _, _], _ => rfl
  have F10 := fun_mk (st := sCutBy) l10 c10 k10
  have b10 := F10.binds (ps := ["web", "owners"]) fun _ _ _ _ _ _ us hl => match us, hl with | [_, _], _ => rfl
  have F11 := fun_mk (st := sOwnersOf) l11 c11 k11
  have b11 := F11.binds (ps := ["web", "posts", "cut"]) fun _ _ _ _ _ _ us hl => match us, hl with | [_, _, _], _ => rfl
  have F12 := fun_mk (st := sByWeight) l12 c12 k12
  have b12 := F12.binds (ps := ["tie"]) fun _ _ _ _ _ _ us hl => match us, hl with | [_], _ => rfl
  have F13 := fun_mk (st := sPruned) l13 c13 k13
  have b13 := F13.binds (ps := ["web", "posts", "cut"]) fun _ _ _ _ _ _ us hl => match us, hl with | [_, _, _], _ => rfl
  have F14 := fun_mk (st := sLCellAt) l14 c14 k14
  have b14 := F14.binds (ps := ["_law_script", "_law_k"]) fun _ _ _ _ _ _ us hl => match us, hl with | [_, _], _ => rfl
  have F15 := fun_mk (st := sLBox) l15 c15 k15
  have b15 := F15.binds (ps := ["_law_script", "_law_k"]) fun _ _ _ _ _ _ us hl => match us, hl with | [_, _], _ => rfl
  have F16 := fun_mk (st := sLTake) l16 c16 k16
  have b16 := F16.binds (ps := ["_law_box_here", "_law_many_here"]) fun _ _ _ _ _ _ us hl => match us, hl with | [_, _], _ => rfl
  have F17 := fun_mk (st := sLMany) l17 c17 k17
  have b17 := F17.binds (ps := ["_law_box_here", "_law_least", "_law_few", "_law_most"]) fun _ _ _ _ _ _ us hl => match us, hl with | [_, _, _, _], _ => rfl
  have F18 := fun_mk (st := sLWeight) l18 c18 k18
  have b18 := F18.binds (ps := ["_law_box_here", "_law_heavy"]) fun _ _ _ _ _ _ us hl => match us, hl with | [_, _], _ => rfl
  have F19 := fun_mk (st := sLWeb) l19 c19 k19
  have b19 := F19.binds (ps := ["_law_box_here", "_law_many_here"]) fun _ _ _ _ _ _ us hl => match us, hl with | [_, _], _ => rfl
  have F20 := fun_mk (st := sLPosts) l20 c20 k20
  have b20 := F20.binds (ps := ["_law_box_here", "_law_many_here", "_law_most"]) fun _ _ _ _ _ _ us hl => match us, hl with | [_, _, _], _ => rfl
  have F21 := fun_mk (st := sLWithPosts) l21 c21 k21
  have b21 := F21.binds (ps := ["_law_box_here"]) fun _ _ _ _ _ _ us hl => match us, hl with | [_], _ => rfl
  have F22 := fun_mk (st := sLCut) l22 c22 k22
  have b22 := F22.binds (ps := ["_law_box_here", "_law_web_here"]) fun _ _ _ _ _ _ us hl => match us, hl with | [_, _], _ => rfl
  have F23 := fun_mk (st := sLOwners) l23 c23 k23
  have b23 := F23.binds (ps := ["_law_box_here", "_law_web_here", "_law_posts_here"]) fun _ _ _ _ _ _ us hl => match us, hl with | [_, _, _], _ => rfl
  have F24 := fun_mk (st := sLCutOf) l24 c24 k24
  have b24 := F24.binds (ps := ["_law_web_here", "_law_owners_here"]) fun _ _ _ _ _ _ us hl => match us, hl with | [_, _], _ => rfl
  have F25 := fun_mk (st := sLPartingRight) l25 c25 k25
  have b25 := F25.binds (ps := ["_law_web_here", "_law_posts_here", "_law_cut_here", "_law_some"]) fun _ _ _ _ _ _ us hl => match us, hl with | [_, _, _, _], _ => rfl
  have F26 := fun_mk (st := sLaw) l26 c26 k26
  refine ⟨PySem.W.fnOf "law" "law" (defArgs sLaw) (defBody sLaw) (defScope sLaw) .none kV26 dc26 pm26 an26 cd26 ct26, fun s v => .of_eq rfl, fun base _ _ => ?_⟩
  have D1 : Dn l.prog w K mg base "pairs_cut" 1 spPairsCut := ⟨⟨_, _, _, okPairsCut (k := 0) F1 T , PySem.W.mg_of X G a1, F1.kp, b1⟩⟩
  have D2 : Dn l.prog w K mg base "weight_of" 2 spWeightOf := ⟨⟨_, _, _, okWeightOf (k := 1) F2 T (D1.mono (by decide)), PySem.W.mg_of X G a2, F2.kp, b2⟩⟩
  have D3 : Dn l.prog w K mg base "without" 2 spWithout := ⟨⟨_, _, _, okWithout (k := 1) F3 T (D1.mono (by decide)), PySem.W.mg_of X G a3, F3.kp, b3⟩⟩
  have D4 : Dn l.prog w K mg base "beside" 1 spBeside := ⟨⟨_, _, _, okBeside (k := 0) F4 T , PySem.W.mg_of X G a4, F4.kp, b4⟩⟩
  have D5 : Dn l.prog w K mg base "hangs_on" 1 spHangsOn := ⟨⟨_, _, _, okHangsOn (k := 0) F5 T , PySem.W.mg_of X G a5, F5.kp, b5⟩⟩
  have D6 : Dn l.prog w K mg base "pieces" 2 spPieces := ⟨⟨_, _, _, okPieces (k := 1) F6 T (D4.mono (by decide)) (D5.mono (by decide)), PySem.W.mg_of X G a6, F6.kp, b6⟩⟩
  have D7 : Dn l.prog w K mg base "merged" 1 spMerged := ⟨⟨_, _, _, okMerged (k := 0) F7 T , PySem.W.mg_of X G a7, F7.kp, b7⟩⟩
  have D8 : Dn l.prog w K mg base "posts_in" 1 spPostsIn := ⟨⟨_, _, _, okPostsIn (k := 0) F8 T , PySem.W.mg_of X G a8, F8.kp, b8⟩⟩
  have D9 : Dn l.prog w K mg base "is_parting" 3 spIsParting := ⟨⟨_, _, _, okIsParting (k := 2) F9 T (D3.mono (by decide)) (D6.mono (by decide)) (D8.mono (by decide)), PySem.W.mg_of X G a9, F9.kp, b9⟩⟩
  have D10 : Dn l.prog w K mg base "cut_by" 1 spCutBy := ⟨⟨_, _, _, okCutBy (k := 0) F10 T , PySem.W.mg_of X G a10, F10.kp, b10⟩⟩
  have D11 : Dn l.prog w K mg base "owners_of" 3 spOwnersOf := ⟨⟨_, _, _, okOwnersOf (k := 2) F11 T (D3.mono (by decide)) (D4.mono (by decide)) (D5.mono (by decide)), PySem.W.mg_of X G a11, F11.kp, b11⟩⟩
  have D12 : Dn l.prog w K mg base "by_weight" 1 spByWeight := ⟨⟨_, _, _, okByWeight (k := 0) F12 T , PySem.W.mg_of X G a12, F12.kp, b12⟩⟩
  have D13 : Dn l.prog w K mg base "pruned" 4 spPruned := ⟨⟨_, _, _, okPruned (k := 3) F13 T (D9.mono (by decide)) D12 (by decide), PySem.W.mg_of X G a13, F13.kp, b13⟩⟩
  have D14 : Dn l.prog w K mg base "_law_cell_at" 1 (spCellAt K) := ⟨⟨_, _, _, okCellAt (k := 0) F14 T , PySem.W.mg_of X G a14, F14.kp, b14⟩⟩
  have D15 : Dn l.prog w K mg base "_law_box" 2 (spBox K) := ⟨⟨_, _, _, okBox (k := 1) F15 T (D14.mono (by decide)), PySem.W.mg_of X G a15, F15.kp, b15⟩⟩
  have D16 : Dn l.prog w K mg base "_law_take" 1 spTake := ⟨⟨_, _, _, okTake (k := 0) F16 T , PySem.W.mg_of X G a16, F16.kp, b16⟩⟩
  have D17 : Dn l.prog w K mg base "_law_many" 2 spMany := ⟨⟨_, _, _, okMany (k := 1) F17 T (D16.mono (by decide)), PySem.W.mg_of X G a17, F17.kp, b17⟩⟩
  have D18 : Dn l.prog w K mg base "_law_weight" 2 spWeight := ⟨⟨_, _, _, okWeight (k := 1) F18 T (D16.mono (by decide)), PySem.W.mg_of X G a18, F18.kp, b18⟩⟩
  have D19 : Dn l.prog w K mg base "_law_web" 3 spLWeb := ⟨⟨_, _, _, okLWeb (k := 2) F19 T (D16.mono (by decide)) (D18.mono (by decide)), PySem.W.mg_of X G a19, F19.kp, b19⟩⟩
  have D20 : Dn l.prog w K mg base "_law_posts" 2 spLPosts := ⟨⟨_, _, _, okLPosts (k := 1) F20 T (D16.mono (by decide)), PySem.W.mg_of X G a20, F20.kp, b20⟩⟩
  have D21 : Dn l.prog w K mg base "_law_with_posts" 4 spLWithPosts := ⟨⟨_, _, _, okLWithPosts (k := 3) F21 T (D17.mono (by decide)) (D19.mono (by decide)) (D20.mono (by decide)), PySem.W.mg_of X G a21, F21.kp, b21⟩⟩
  have D22 : Dn l.prog w K mg base "_law_cut" 2 spLCut := ⟨⟨_, _, _, okLCut (k := 1) F22 T (D16.mono (by decide)), PySem.W.mg_of X G a22, F22.kp, b22⟩⟩
  have D23 : Dn l.prog w K mg base "_law_owners" 2 spLOwners := ⟨⟨_, _, _, okLOwners (k := 1) F23 T (D16.mono (by decide)), PySem.W.mg_of X G a23, F23.kp, b23⟩⟩
  have D24 : Dn l.prog w K mg base "_law_cut_of" 1 spLCutOf := ⟨⟨_, _, _, okLCutOf (k := 0) F24 T , PySem.W.mg_of X G a24, F24.kp, b24⟩⟩
  have D25 : Dn l.prog w K mg base "_law_parting_right" 5 spRight := ⟨⟨_, _, _, okRight (k := 4) F25 T (D11.mono (by decide)) (D10.mono (by decide)) (D13.mono (by decide)) (D9.mono (by decide)) (D2.mono (by decide)) (D3.mono (by decide)), PySem.W.mg_of X G a25, F25.kp, b25⟩⟩
  exact okLaw (k := 5) F26 T (D15.mono (by decide)) (D21.mono (by decide)) (D24.mono (by decide)) (D23.mono (by decide)) (D22.mono (by decide)) (D16.mono (by decide)) (D6.mono (by decide)) (D3.mono (by decide)) (D9.mono (by decide)) (D7.mono (by decide)) (D2.mono (by decide)) (D25.mono (by decide))
end K8
open PySem PySem.W PyProof.Rows
set_option maxHeartbeats 0 in
theorem PySem.Challenge.cw_partedweb_k08_whole_cuts_beside_owners_holds : PySem.Challenge.rw_partedweb_k08_whole_cuts_beside_owners.Holds := by
  w_on; o_law; k_head; (case hw => w_witness2)
  k_fill
  refine L2.walk_of (l := PySem.Challenge.rw_partedweb_k08_whole_cuts_beside_owners) (n := 63) (k := 6) (x := "_law_script") (CX := fun _ => L2.CX0) (sp := fun w => K8.spLaw _) rfl (by decide) rfl ⟨rfl, by decide, by decide⟩ (fun w h Y => PySem.W.kIn_of Y) ?F (fun _ _ a ns hl _ hS => ⟨a, ns, rfl, hS, hl, fun _ => rfl⟩) (fun _ _ _ _ _ h => h)
  case F =>
    intro w mg fa h KX G hmg
    refine' K8.all_mk KX G hmg ?a1 ?l1 ?c1 ?k1 ?a2 ?l2 ?c2 ?k2 ?a3 ?l3 ?c3 ?k3 ?a4 ?l4 ?c4 ?k4 ?a5 ?l5 ?c5 ?k5 ?a6 ?l6 ?c6 ?k6 ?a7 ?l7 ?c7 ?k7 ?a8 ?l8 ?c8 ?k8 ?a9 ?l9 ?c9 ?k9 ?a10 ?l10 ?c10 ?k10 ?a11 ?l11 ?c11 ?k11 ?a12 ?l12 ?c12 ?k12 ?a13 ?l13 ?c13 ?k13 ?a14 ?l14 ?c14 ?k14 ?a15 ?l15 ?c15 ?k15 ?a16 ?l16 ?c16 ?k16 ?a17 ?l17 ?c17 ?k17 ?a18 ?l18 ?c18 ?k18 ?a19 ?l19 ?c19 ?k19 ?a20 ?l20 ?c20 ?k20 ?a21 ?l21 ?c21 ?k21 ?a22 ?l22 ?c22 ?k22 ?a23 ?l23 ?c23 ?k23 ?a24 ?l24 ?c24 ?k24 ?a25 ?l25 ?c25 ?k25 ?a26 ?l26 ?c26 ?k26 ?z1 ?z2 ?z3 ?z4 ?z5 ?z6 ?z7 ?z8 ?z9 ?z10 ?z11 ?z12 ?z13 ?z14
    (case a1 => k_is); (case l1 => k_is); (case c1 => k_is); (case k1 => k_is); (case a2 => k_is); (case l2 => k_is); (case c2 => k_is); (case k2 => k_is)
    (case a3 => k_is); (case l3 => k_is); (case c3 => k_is); (case k3 => k_is); (case a4 => k_is); (case l4 => k_is); (case c4 => k_is); (case k4 => k_is)
    (case a5 => k_is); (case l5 => k_is); (case c5 => k_is); (case k5 => k_is); (case a6 => k_is); (case l6 => k_is); (case c6 => k_is); (case k6 => k_is)
    (case a7 => k_is); (case l7 => k_is); (case c7 => k_is); (case k7 => k_is); (case a8 => k_is); (case l8 => k_is); (case c8 => k_is); (case k8 => k_is)
    (case a9 => k_is); (case l9 => k_is); (case c9 => k_is); (case k9 => k_is); (case a10 => k_is); (case l10 => k_is); (case c10 => k_is); (case k10 => k_is)
    (case a11 => k_is); (case l11 => k_is); (case c11 => k_is); (case k11 => k_is); (case a12 => k_is); (case l12 => k_is); (case c12 => k_is); (case k12 => k_is)
    (case a13 => k_is); (case l13 => k_is); (case c13 => k_is); (case k13 => k_is); (case a14 => k_is); (case l14 => k_is); (case c14 => k_is); (case k14 => k_is)
    (case a15 => k_is); (case l15 => k_is); (case c15 => k_is); (case k15 => k_is); (case a16 => k_is); (case l16 => k_is); (case c16 => k_is); (case k16 => k_is)
    (case a17 => k_is); (case l17 => k_is); (case c17 => k_is); (case k17 => k_is); (case a18 => k_is); (case l18 => k_is); (case c18 => k_is); (case k18 => k_is)
    (case a19 => k_is); (case l19 => k_is); (case c19 => k_is); (case k19 => k_is); (case a20 => k_is); (case l20 => k_is); (case c20 => k_is); (case k20 => k_is)
    (case a21 => k_is); (case l21 => k_is); (case c21 => k_is); (case k21 => k_is); (case a22 => k_is); (case l22 => k_is); (case c22 => k_is); (case k22 => k_is)
    (case a23 => k_is); (case l23 => k_is); (case c23 => k_is); (case k23 => k_is); (case a24 => k_is); (case l24 => k_is); (case c24 => k_is); (case k24 => k_is)
    (case a25 => k_is); (case l25 => k_is); (case c25 => k_is); (case k25 => k_is); (case a26 => k_is); (case l26 => k_is); (case c26 => k_is); (case k26 => k_is)
    (case z1 => k_is); (case z2 => k_is); (case z3 => k_is); (case z4 => k_is); (case z5 => k_is); (case z6 => k_is); (case z7 => k_is); (case z8 => k_is)
    (case z9 => k_is); (case z10 => k_is); (case z11 => k_is); (case z12 => k_is); (case z13 => k_is); (case z14 => k_is)
