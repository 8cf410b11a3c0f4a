import PyProof.Rows.All
import HandS.ForMost
import HandS.Codes
import HandS.Deep
import HandS.IsInst
import HandS.OwnEq
import HandS.Zip
import HandS.Conv
import HandS.TupAny
import HandS.TupLe
import HandS.Style
import HandS.Lambda
import HandS.DictTup
import HandS.TupLen
import HandS.Walk
import HandS.Rev
import KE.SortData
import KE.KDictList
import KE.GoesNew
import PyProof.InstNe
import PySem.Challenge.RW_farbeats_k91_whole_finders
import KE.KDictCopyH
import KE.KDictSum
import KE.GoesZip
import KE.GoesMore
import KE.GoesEnum
import HandS.HeadHook4
import HandS.HeadWalk
import HandS.Head2
set_option Elab.async false
set_option linter.all false
set_option maxRecDepth 100000
set_option maxHeartbeats 4000000
local macro_rules | `(tactic| walk_at "q") => `(tactic| repeat (first | (refine ⟨_, rfl, ?_⟩) | (refine ⟨_, _, rfl, rfl, ?_⟩) | (refine ⟨Or.inr ⟨by omega, by omega⟩, ?_⟩)))
/-! The plain mathematics: stands, signs, nets; no program in sight. -/
namespace Fb
abbrev Stand := Int × Int × Int
abbrev Sign := Int × Int × Int
abbrev Way := Int × Int × Int × Int × Int
abbrev House := List Way
abbrev Rule := Int × Int
abbrev Deed := Int × List Sign
structure Net where
  wide : Int
  high : Int
  clocks : Int
  slip : Int
  houses : List House
def absI (n : Int) : Int := if n < 0 then -n else n
def maxI (i j : Int) : Int := if j > i then j else i
def minI (i j : Int) : Int := if j < i then j else i
def wayAt (w : Way) (t : Int) : Int × Int := (w.2.1 + (t - w.1) * w.2.2.2.1, w.2.2.1 + (t - w.1) * w.2.2.2.2)
def placeBy (h : House) (t : Int) : Option (Int × Int) := h.foldl (fun f w => if w.1 ≤ t then some (wayAt w t) else f) none
def farI (a b c d : Int) : Int := maxI (absI (a - c)) (absI (b - d))
def dueAt (n : Net) (s : Stand) (g : Sign) : Int := match placeBy (n.houses.getD g.1.toNat []) g.2.1 with
  | some p => g.2.1 + farI p.1 p.2 s.1 s.2.1 + s.2.2
  | none => 0
def fitsB (n : Net) (s : Stand) (g : Sign) : Bool := decide (-n.slip ≤ g.2.2 - dueAt n s g) && decide (g.2.2 - dueAt n s g ≤ n.slip)
structure WayOk (w : Way) : Prop where
  b0 : 0 ≤ w.1
  b1 : w.1 ≤ 255
  x0 : -50 ≤ w.2.1
  x1 : w.2.1 ≤ 100
  y0 : -50 ≤ w.2.2.1
  y1 : w.2.2.1 ≤ 100
  r0 : -7 ≤ w.2.2.2.1
  r1 : w.2.2.2.1 ≤ 7
  u0 : -7 ≤ w.2.2.2.2
  u1 : w.2.2.2.2 ≤ 7
structure HouseOk (h : House) : Prop where
  l0 : 1 ≤ h.length
  l1 : h.length ≤ 3
  ways : ∀ w ∈ h, WayOk w
  rise : (h.map (·.1)).Pairwise (· < ·)
structure NetOk (n : Net) : Prop where
  w0 : 1 ≤ n.wide
  w1 : n.wide ≤ 5
  h0 : 1 ≤ n.high
  h1 : n.high ≤ 5
  c0 : 0 ≤ n.clocks
  c1 : n.clocks ≤ 2
  s0 : 0 ≤ n.slip
  s1 : n.slip ≤ 2
  l0 : 1 ≤ n.houses.length
  l1 : n.houses.length ≤ 6
  houses : ∀ h ∈ n.houses, HouseOk h
structure RuleOk (r : Rule) : Prop where
  f0 : 0 ≤ r.1
  f1 : r.1 ≤ 3
  d0 : 0 ≤ r.2
  d1 : r.2 ≤ 2
structure SignOk (n : Net) (g : Sign) : Prop where
  i0 : 0 ≤ g.1
  i1 : g.1 < (n.houses.length : Int)
  t0 : 0 ≤ g.2.1
  t1 : g.2.1 ≤ 300
  h0 : -3000 ≤ g.2.2
  h1 : g.2.2 ≤ 3000
  at_ : ∃ p, placeBy (n.houses.getD g.1.toNat []) g.2.1 = some p
/-! ### the stands of a net, in order -/
def inNet (n : Net) (s : Stand) : Prop := (0 ≤ s.1 ∧ s.1 < n.wide) ∧ (0 ≤ s.2.1 ∧ s.2.1 < n.high) ∧ (-n.clocks ≤ s.2.2 ∧ s.2.2 ≤ n.clocks)
instance (n : Net) (s : Stand) : Decidable (inNet n s) := by unfold inNet; infer_instance
def irange (lo : Int) (k : Nat) : List Int := (List.range k).map fun (i : Nat) => lo + (i : Int)
theorem mem_irange {lo x : Int} {k : Nat} : x ∈ irange lo k ↔ lo ≤ x ∧ x < lo + k := by
  unfold irange
  rw [List.mem_map]
  constructor
  · rintro ⟨i, hi, rfl⟩
    have := List.mem_range.mp hi
    omega
  · rintro ⟨h1, h2⟩
    exact ⟨(x - lo).toNat, List.mem_range.mpr (by omega), by omega⟩
theorem irange_lt (lo : Int) (k : Nat) : (irange lo k).Pairwise (· < ·) := by
  unfold irange
  rw [List.pairwise_map]
  exact List.pairwise_lt_range.imp fun h => by omega
theorem irange_length (lo : Int) (k : Nat) : (irange lo k).length = k := by simp [irange]
def lt3 (p q : Stand) : Prop := p.1 < q.1 ∨ (p.1 = q.1 ∧ (p.2.1 < q.2.1 ∨ (p.2.1 = q.2.1 ∧ p.2.2 < q.2.2)))
instance (p q : Stand) : Decidable (lt3 p q) := by unfold lt3; infer_instance
theorem lt3_irrefl {p : Stand} : ¬ lt3 p p := by unfold lt3; omega
theorem lt3_asymm {p q : Stand} (h : lt3 p q) : ¬ lt3 q p := by unfold lt3 at *; omega
theorem lt3_tri {p q : Stand} (h1 : ¬ lt3 p q) (h2 : ¬ lt3 q p) : p = q := by
  obtain ⟨a, b, c⟩ := p
  obtain ⟨a', b', c'⟩ := q
  unfold lt3 at *
  simp only at h1 h2
  have e1 : a = a' := by omega
  have e2 : b = b' := by omega
  have e3 : c = c' := by omega
  rw [e1, e2, e3]
/-- strictly in order -/
abbrev SS (l : List Stand) : Prop := l.Pairwise lt3
theorem SS.nodup {l : List Stand} (h : SS l) : l.Nodup := h.imp fun hl e => by
  subst e
  exact lt3_irrefl hl
theorem SS.ext {l l' : List Stand} (h : SS l) (h' : SS l') (e : ∀ x, x ∈ l ↔ x ∈ l') : l = l' :=
  ((List.perm_ext_iff_of_nodup h.nodup h'.nodup).mpr e).eq_of_pairwise (fun _ _ _ _ a b => absurd b (lt3_asymm a)) h h'
def allS (n : Net) : List Stand := (irange 0 n.wide.toNat).flatMap fun x => (irange 0 n.high.toNat).flatMap fun y => (irange (-n.clocks) (n.clocks + 1 - -n.clocks).toNat).map fun o => (x, y, o)
theorem mem_allS {n : Net} (h : NetOk n) {s : Stand} : s ∈ allS n ↔ inNet n s := by
  have := h.w0
  have := h.h0
  have := h.c0
  obtain ⟨a, b, c⟩ := s
  unfold allS inNet
  simp only [List.mem_flatMap, List.mem_map, mem_irange, Prod.mk.injEq]
  constructor
  · rintro ⟨x, hx, y, hy, o, ho, rfl, rfl, rfl⟩
    omega
  · rintro ⟨h1, h2, h3⟩
    exact ⟨a, by omega, b, by omega, c, by omega, rfl, rfl, rfl⟩
theorem allS_ss (n : Net) : SS (allS n) := by
  unfold allS SS
  rw [List.pairwise_flatMap]
  refine ⟨fun x _ => ?_, (irange_lt _ _).imp fun hxy u hu v hv => ?_⟩
  · rw [List.pairwise_flatMap]
    refine ⟨fun y _ => ?_, (irange_lt _ _).imp fun hxy u hu v hv => ?_⟩
    · rw [List.pairwise_map]
      exact (irange_lt _ _).imp fun h => .inr ⟨rfl, .inr ⟨rfl, h⟩⟩
    · obtain ⟨_, _, rfl⟩ := List.mem_map.mp hu
      obtain ⟨_, _, rfl⟩ := List.mem_map.mp hv
      exact .inr ⟨rfl, .inl hxy⟩
  · obtain ⟨_, _, hu⟩ := List.mem_flatMap.mp hu
    obtain ⟨_, _, rfl⟩ := List.mem_map.mp hu
    obtain ⟨_, _, hv⟩ := List.mem_flatMap.mp hv
    obtain ⟨_, _, rfl⟩ := List.mem_map.mp hv
    exact .inl hxy
theorem sum_const {α : Type} (k : Nat) : ∀ l : List α, (l.map fun _ => k).sum = l.length * k
  | [] => by simp
  | _ :: l => by
    rw [List.map_cons, List.sum_cons, sum_const k l, List.length_cons, Nat.succ_mul, Nat.add_comm]
theorem allS_length (n : Net) : (allS n).length = n.wide.toNat * (n.high.toNat * (n.clocks + 1 - -n.clocks).toNat) := by
  unfold allS
  simp only [List.length_flatMap, List.length_map, irange_length, sum_const]
theorem allS_most {n : Net} (h : NetOk n) : (allS n).length ≤ 125 := by
  rw [allS_length]
  have h1 := h.w1
  have h2 := h.h1
  have h3 := h.c1
  have e1 : n.wide.toNat ≤ 5 := by omega
  have e2 : n.high.toNat ≤ 5 := by omega
  have e3 : (n.clocks + 1 - -n.clocks).toNat ≤ 5 := by omega
  have e4 := Nat.mul_le_mul e2 e3
  exact Nat.le_trans (Nat.mul_le_mul e1 e4) (by decide)
/-- a state's stands: in order, within the net -/
structure Canon (n : Net) (S : List Stand) : Prop where
  ss : SS S
  inn : ∀ s ∈ S, inNet n s
theorem Canon.ext {n : Net} {S S' : List Stand} (h : Canon n S) (h' : Canon n S') (e : ∀ x, inNet n x → (x ∈ S ↔ x ∈ S')) : S = S' :=
  h.ss.ext h'.ss fun x => ⟨fun q => (e x (h.inn x q)).mp q, fun q => (e x (h'.inn x q)).mpr q⟩
theorem Canon.all {n : Net} (h : NetOk n) : Canon n (allS n) := ⟨allS_ss n, fun _ q => (mem_allS h).mp q⟩
theorem Canon.filter {n : Net} {S : List Stand} (h : Canon n S) (p : Stand → Bool) : Canon n (S.filter p) := ⟨h.ss.filter p, fun s q => h.inn s (List.mem_filter.mp q).1⟩
theorem Canon.most {n : Net} {S : List Stand} (hn : NetOk n) (h : Canon n S) : S.length ≤ 125 := by
  have e : S = (allS n).filter fun s => decide (s ∈ S) := h.ext ((Canon.all hn).filter _) fun x hx => by
    rw [List.mem_filter, mem_allS hn, decide_eq_true_iff]
    exact ⟨fun q => ⟨hx, q⟩, fun q => q.2⟩
  rw [e]
  exact Nat.le_trans (List.length_filter_le _ _) (allS_most hn)
/-! ### to where a rule leads -/
def reach (r : Rule) (t : Int) (a b : Stand) : Prop := (-(r.1 * t) ≤ b.1 - a.1 ∧ b.1 - a.1 ≤ r.1 * t) ∧ (-(r.1 * t) ≤ b.2.1 - a.2.1 ∧ b.2.1 - a.2.1 ≤ r.1 * t) ∧ (-(r.2 * t) ≤ b.2.2 - a.2.2 ∧ b.2.2 - a.2.2 ≤ r.2 * t)
instance (r : Rule) (t : Int) (a b : Stand) : Decidable (reach r t a b) := by unfold reach; infer_instance
theorem RuleOk.nn {r : Rule} (h : RuleOk r) {t : Int} (ht : 0 ≤ t) : 0 ≤ r.1 * t ∧ 0 ≤ r.2 * t := ⟨Int.mul_nonneg h.f0 ht, Int.mul_nonneg h.d0 ht⟩
theorem reach_self {r : Rule} (h : RuleOk r) {t : Int} (ht : 0 ≤ t) (a : Stand) : reach r t a a := by
  obtain ⟨h1, h2⟩ := h.nn ht
  unfold reach
  omega
def hearS (n : Net) (S : List Stand) (g : Sign) : List Stand := S.filter fun s => fitsB n s g
def goS (n : Net) (r : Rule) (S : List Stand) (t : Int) : List Stand := (allS n).filter fun b => S.any fun a => decide (reach r t a b)
theorem mem_goS {n : Net} (hn : NetOk n) {r : Rule} {S : List Stand} {t : Int} {b : Stand} : b ∈ goS n r S t ↔ inNet n b ∧ ∃ a ∈ S, reach r t a b := by
  unfold goS
  rw [List.mem_filter, mem_allS hn, List.any_eq_true]
  simp only [decide_eq_true_iff]
theorem mem_hearS {n : Net} {S : List Stand} {g : Sign} {s : Stand} : s ∈ hearS n S g ↔ s ∈ S ∧ fitsB n s g = true := List.mem_filter
theorem Canon.go {n : Net} (hn : NetOk n) (r : Rule) (S : List Stand) (t : Int) : Canon n (goS n r S t) := (Canon.all hn).filter _
theorem Canon.hear {n : Net} {S : List Stand} (h : Canon n S) (g : Sign) : Canon n (hearS n S g) := h.filter _
theorem goS_zero {n : Net} (hn : NetOk n) (r : Rule) {S : List Stand} (h : Canon n S) : goS n r S 0 = S := (Canon.go hn r S 0).ext h fun x hx => by
  rw [mem_goS hn]
  constructor
  · rintro ⟨_, a, ha, q⟩
    have e : x = a := by
      obtain ⟨a1, a2, a3⟩ := a
      obtain ⟨x1, x2, x3⟩ := x
      unfold reach at q
      simp only [Int.mul_zero] at q
      rw [show x1 = a1 by omega, show x2 = a2 by omega, show x3 = a3 by omega]
    rw [e]
    exact ha
  · intro q
    exact ⟨hx, x, q, by unfold reach; simp only [Int.mul_zero]; omega⟩
/-- a number between two, so far from the one, so far from the other -/
def mid (A a b : Int) : Int := if b - a > A then a + A else if b - a < -A then a - A else b
theorem mid_ok {A B a b : Int} (hA : 0 ≤ A) (hB : 0 ≤ B) (h1 : -(A + B) ≤ b - a) (h2 : b - a ≤ A + B) : (-A ≤ mid A a b - a ∧ mid A a b - a ≤ A) ∧ (-B ≤ b - mid A a b ∧ b - mid A a b ≤ B) ∧ ((a ≤ mid A a b ∧ mid A a b ≤ b) ∨ (b ≤ mid A a b ∧ mid A a b ≤ a)) := by
  unfold mid
  split
  · omega
  · split <;> omega
theorem goS_goS {n : Net} (hn : NetOk n) {r : Rule} (hr : RuleOk r) {S : List Stand} (hS : ∀ s ∈ S, inNet n s) {a b : Int} (ha : 0 ≤ a) (hb : 0 ≤ b) : goS n r (goS n r S a) b = goS n r S (a + b) :=
  (Canon.go hn r _ b).ext (Canon.go hn r S (a + b)) fun x hx => by
    obtain ⟨A1, A2⟩ := hr.nn ha
    obtain ⟨B1, B2⟩ := hr.nn hb
    rw [mem_goS hn, mem_goS hn]
    constructor
    · rintro ⟨_, m, hm, q⟩
      obtain ⟨_, s, hs, q'⟩ := (mem_goS hn).mp hm
      refine ⟨hx, s, hs, ?_⟩
      unfold reach at *
      simp only [Int.mul_add]
      omega
    · rintro ⟨_, s, hs, q⟩
      unfold reach at q
      simp only [Int.mul_add] at q
      obtain ⟨q1, q2, q3⟩ := q
      have m1 := mid_ok A1 B1 q1.1 q1.2
      have m2 := mid_ok A1 B1 q2.1 q2.2
      have m3 := mid_ok A2 B2 q3.1 q3.2
      have hs' := hS s hs
      refine ⟨hx, (mid (r.1 * a) s.1 x.1, mid (r.1 * a) s.2.1 x.2.1, mid (r.2 * a) s.2.2 x.2.2), (mem_goS hn).mpr ⟨?_, s, hs, ?_⟩, ?_⟩
      · unfold inNet at *
        simp only
        omega
      · unfold reach
        exact ⟨m1.1, m2.1, m3.1⟩
      · unfold reach
        exact ⟨m1.2.1, m2.2.1, m3.2.1⟩
/-! ### deeds -/
def hearAll (n : Net) (S : List Stand) (gs : List Sign) : List Stand := gs.foldl (hearS n) S
def stepS (n : Net) (r : Rule) (S : List Stand) (d : Deed) : List Stand := hearAll n (goS n r S d.1) d.2
def runS (n : Net) (r : Rule) (ds : List Deed) : List Stand := ds.foldl (stepS n r) (allS n)
theorem hearAll_nil (n : Net) (S : List Stand) : hearAll n S [] = S := rfl
theorem hearAll_snoc (n : Net) (S : List Stand) (gs : List Sign) (g : Sign) : hearAll n S (gs ++ [g]) = hearS n (hearAll n S gs) g := by
  unfold hearAll
  rw [List.foldl_append]
  rfl
theorem runS_snoc (n : Net) (r : Rule) (ds : List Deed) (d : Deed) : runS n r (ds ++ [d]) = stepS n r (runS n r ds) d := by
  unfold runS
  rw [List.foldl_append]
  rfl
theorem mem_hearAll {n : Net} {s : Stand} : ∀ {gs : List Sign} {S : List Stand}, s ∈ hearAll n S gs ↔ s ∈ S ∧ ∀ g ∈ gs, fitsB n s g = true
  | [], S => by simp [hearAll]
  | g :: gs, S => by
    show s ∈ hearAll n (hearS n S g) gs ↔ _
    rw [mem_hearAll, mem_hearS]
    simp only [List.mem_cons, forall_eq_or_imp, and_assoc]
theorem Canon.hearAll {n : Net} : ∀ {gs : List Sign} {S : List Stand}, Canon n S → Canon n (hearAll n S gs)
  | [], _, h => h
  | g :: gs, _, h => Canon.hearAll (gs := gs) (h.hear g)
theorem hearAll_rev {n : Net} {S : List Stand} (h : Canon n S) (gs : List Sign) : hearAll n S gs.reverse = hearAll n S gs := h.hearAll.ext h.hearAll fun x _ => by
  rw [mem_hearAll, mem_hearAll]
  simp only [List.mem_reverse]
theorem Canon.step {n : Net} (hn : NetOk n) (r : Rule) (S : List Stand) (d : Deed) : Canon n (stepS n r S d) := (Canon.go hn r S d.1).hearAll
theorem Canon.run {n : Net} (hn : NetOk n) (r : Rule) (ds : List Deed) : Canon n (runS n r ds) := by
  unfold runS
  suffices h : ∀ (ds : List Deed) (S : List Stand), Canon n S → Canon n (ds.foldl (stepS n r) S) from h ds _ (Canon.all hn)
  intro ds
  induction ds with
  | nil => exact fun _ h => h
  | cons d ds ih => exact fun S _ => ih _ (Canon.step hn r S d)
/-- how one who moves hears: p i the stand ahead of the i-th deed -/
structure Heard (n : Net) (r : Rule) (p : Nat → Stand) (i : Nat) (d : Deed) : Prop where
  t0 : 1 ≤ d.1
  t1 : d.1 ≤ 4
  inn : inNet n (p (i + 1))
  lead : reach r d.1 (p i) (p (i + 1))
  signs : ∀ g ∈ d.2, SignOk n g ∧ fitsB n (p (i + 1)) g = true
  few : d.2.length ≤ 2
structure DeedsOk (n : Net) (r : Rule) (p : Nat → Stand) (ds : List Deed) : Prop where
  beg : inNet n (p 0)
  deed : ∀ (i : Nat) (d : Deed), ds[i]? = some d → Heard n r p i d
theorem DeedsOk.nil {n : Net} {r : Rule} {s : Stand} (h : inNet n s) : DeedsOk n r (fun _ => s) [] := ⟨h, fun i d e => by simp at e⟩
theorem DeedsOk.snoc {n : Net} {r : Rule} {p : Nat → Stand} {ds : List Deed} (h : DeedsOk n r p ds) {s : Stand} {d : Deed} (t0 : 1 ≤ d.1) (t1 : d.1 ≤ 4) (inn : inNet n s) (lead : reach r d.1 (p ds.length) s)
    (signs : ∀ g ∈ d.2, SignOk n g ∧ fitsB n s g = true) (few : d.2.length ≤ 2) : DeedsOk n r (fun i => if i = ds.length + 1 then s else p i) (ds ++ [d]) := by
  refine ⟨by simpa using h.beg, fun i e hi => ?_⟩
  by_cases hl : i < ds.length
  · rw [List.getElem?_append_left hl] at hi
    have q := h.deed i e hi
    have e1 : ¬ i + 1 = ds.length + 1 := by omega
    have e2 : ¬ i = ds.length + 1 := by omega
    exact ⟨q.t0, q.t1, by simp only [e1, if_false]; exact q.inn, by simp only [e1, e2, if_false]; exact q.lead, by simp only [e1, if_false]; exact q.signs, q.few⟩
  · have hi' : i = ds.length := by
      have q := (List.getElem?_eq_some_iff.mp hi).1
      simp at q
      omega
    subst hi'
    simp at hi
    subst hi
    have e2 : ¬ ds.length = ds.length + 1 := by omega
    exact ⟨t0, t1, by simpa using inn, by simp only [e2, if_false, if_true]; exact lead, by simpa using signs, few⟩
theorem true_go {n : Net} (hn : NetOk n) {r : Rule} {p : Nat → Stand} {i : Nat} {d : Deed} (h : Heard n r p i d) {S : List Stand} (hS : p i ∈ S) : p (i + 1) ∈ goS n r S d.1 := (mem_goS hn).mpr ⟨h.inn, _, hS, h.lead⟩
theorem true_step {n : Net} (hn : NetOk n) {r : Rule} {p : Nat → Stand} {i : Nat} {d : Deed} (h : Heard n r p i d) {S : List Stand} (hS : p i ∈ S) : p (i + 1) ∈ stepS n r S d := mem_hearAll.mpr ⟨true_go hn h hS, fun g hg => (h.signs g hg).2⟩
theorem stay_go {n : Net} (hn : NetOk n) {r : Rule} (hr : RuleOk r) {S : List Stand} (hS : ∀ s ∈ S, inNet n s) {t : Int} (ht : 0 ≤ t) {s : Stand} (hs : s ∈ S) : s ∈ goS n r S t := (mem_goS hn).mpr ⟨hS s hs, s, hs, reach_self hr ht s⟩
/-! ### the same field, otherwise told -/
structure Sym (n n' : Net) where
  f : Stand → Stand
  g : Sign → Sign
  ff : ∀ s, f (f s) = s
  inn : ∀ s, inNet n' (f s) ↔ inNet n s
  rch : ∀ (r : Rule) (t : Int) (a b : Stand), reach r t (f a) (f b) ↔ reach r t a b
  fit : ∀ (s : Stand) (g' : Sign), SignOk n g' → fitsB n' (f s) (g g') = fitsB n s g'
  sok : ∀ g', SignOk n g' → SignOk n' (g g')
variable {n n' : Net}
def Sym.deeds (Y : Sym n n') (ds : List Deed) : List Deed := ds.map fun d => (d.1, d.2.map Y.g)
theorem Sym.rch' (Y : Sym n n') (r : Rule) (t : Int) (a b : Stand) : reach r t (Y.f a) (Y.f b) ↔ reach r t a b := Y.rch r t a b
theorem Sym.go (Y : Sym n n') (hn : NetOk n) (hn' : NetOk n') {r : Rule} {S S' : List Stand} (h : ∀ s, Y.f s ∈ S' ↔ s ∈ S) (t : Int) (s : Stand) : Y.f s ∈ goS n' r S' t ↔ s ∈ goS n r S t := by
  rw [mem_goS hn, mem_goS hn', Y.inn]
  constructor
  · rintro ⟨h1, a, ha, q⟩
    refine ⟨h1, Y.f a, (h _).mp (by rw [Y.ff]; exact ha), ?_⟩
    have q2 := (Y.rch' r t (Y.f a) s).mp
    rw [Y.ff] at q2
    exact q2 q
  · rintro ⟨h1, a, ha, q⟩
    exact ⟨h1, Y.f a, (h a).mpr ha, (Y.rch' r t a s).mpr q⟩
theorem Sym.hear (Y : Sym n n') {S S' : List Stand} (h : ∀ s, Y.f s ∈ S' ↔ s ∈ S) : ∀ {gs : List Sign}, (∀ g ∈ gs, SignOk n g) → ∀ s, Y.f s ∈ hearAll n' S' (gs.map Y.g) ↔ s ∈ hearAll n S gs := fun {gs} hg s => by
  rw [mem_hearAll, mem_hearAll, h]
  refine and_congr_right fun _ => ⟨fun q g hgs => ?_, fun q g hgs => ?_⟩
  · rw [← Y.fit s g (hg g hgs)]
    exact q _ (List.mem_map.mpr ⟨g, hgs, rfl⟩)
  · obtain ⟨g', hg', rfl⟩ := List.mem_map.mp hgs
    rw [Y.fit s g' (hg g' hg')]
    exact q g' hg'
theorem Sym.run (Y : Sym n n') (hn : NetOk n) (hn' : NetOk n') (r : Rule) {ds : List Deed} (hd : ∀ d ∈ ds, ∀ g ∈ d.2, SignOk n g) (s : Stand) : Y.f s ∈ runS n' r (Y.deeds ds) ↔ s ∈ runS n r ds := by
  unfold runS Sym.deeds
  suffices H : ∀ (ds : List Deed) (S S' : List Stand), (∀ s, Y.f s ∈ S' ↔ s ∈ S) → (∀ d ∈ ds, ∀ g ∈ d.2, SignOk n g) → ∀ s, Y.f s ∈ (ds.map fun d => (d.1, d.2.map Y.g)).foldl (stepS n' r) S' ↔ s ∈ ds.foldl (stepS n r) S from
    H ds _ _ (fun s => by rw [mem_allS hn, mem_allS hn', Y.inn]) hd s
  intro ds
  induction ds with
  | nil => exact fun _ _ h _ s => h s
  | cons d ds ih =>
    intro S S' h hd s
    exact ih (stepS n r S d) (stepS n' r S' (d.1, d.2.map Y.g)) (fun s => Y.hear (Y.go hn hn' h d.1) (hd d List.mem_cons_self) s) (fun d hd' => hd d (List.mem_cons_of_mem _ hd')) s
theorem Sym.deedsOk (Y : Sym n n') {r : Rule} {p : Nat → Stand} {ds : List Deed} (h : DeedsOk n r p ds) : DeedsOk n' r (fun i => Y.f (p i)) (Y.deeds ds) := by
  refine ⟨(Y.inn _).mpr h.beg, fun i d hi => ?_⟩
  unfold Sym.deeds at hi
  rw [List.getElem?_map] at hi
  cases e : ds[i]? with
  | none =>
    rw [e] at hi
    cases hi
  | some d0 =>
    rw [e] at hi
    cases hi
    have q := h.deed i d0 e
    refine ⟨q.t0, q.t1, (Y.inn _).mpr q.inn, (Y.rch' _ _ _ _).mpr q.lead, fun g hg => ?_, by simpa using q.few⟩
    obtain ⟨g', hg', rfl⟩ := List.mem_map.mp hg
    exact ⟨Y.sok _ (q.signs g' hg').1, by rw [Y.fit _ _ (q.signs g' hg').1]; exact (q.signs g' hg').2⟩
theorem DeedsOk.signsOk {n : Net} {r : Rule} {p : Nat → Stand} {ds : List Deed} (h : DeedsOk n r p ds) : ∀ d ∈ ds, ∀ g ∈ d.2, SignOk n g := fun d hd g hg => by
  obtain ⟨i, hi, rfl⟩ := List.mem_iff_getElem.mp hd
  exact ((h.deed i ds[i] (List.getElem?_eq_getElem hi)).signs g hg).1
/-! ### mirrored -/
def mirW (w0 : Int) (w : Way) : Way := (w.1, w0 - 1 - w.2.1, w.2.2.1, 0 - w.2.2.2.1, w.2.2.2.2)
def mirN (n : Net) : Net := { n with houses := n.houses.map fun h => h.map (mirW n.wide) }
def mirS (n : Net) (s : Stand) : Stand := (n.wide - 1 - s.1, s.2.1, s.2.2)
theorem placeBy_map {φ : Way → Way} {ψ : Int × Int → Int × Int} (hb : ∀ w, (φ w).1 = w.1) (hp : ∀ w t, wayAt (φ w) t = ψ (wayAt w t)) (t : Int) (h : House) : placeBy (h.map φ) t = (placeBy h t).map ψ := by
  unfold placeBy
  suffices H : ∀ (h : House) (f : Option (Int × Int)), (h.map φ).foldl (fun f w => if w.1 ≤ t then some (wayAt w t) else f) (f.map ψ) = (h.foldl (fun f w => if w.1 ≤ t then some (wayAt w t) else f) f).map ψ from H h none
  intro h
  induction h with
  | nil => exact fun _ => rfl
  | cons w h ih =>
    intro f
    rw [List.map_cons, List.foldl_cons, List.foldl_cons, hb]
    by_cases hw : w.1 ≤ t
    · rw [if_pos hw, if_pos hw, ← ih, hp]
      rfl
    · rw [if_neg hw, if_neg hw, ← ih]
theorem getD_map {α β : Type} (φ : List α → List β) (h0 : φ [] = []) : ∀ (l : List (List α)) (i : Nat), (l.map φ).getD i [] = φ (l.getD i [])
  | [], i => by simp [h0]
  | a :: l, 0 => by simp
  | a :: l, i + 1 => by
    have := getD_map φ h0 l i
    simpa using this
theorem absI_neg (a b : Int) (h : b = -a) : absI b = absI a := by
  unfold absI
  split <;> split <;> omega
theorem maxI_comm (a b : Int) : maxI a b = maxI b a := by
  unfold maxI
  split <;> split <;> omega
theorem mirW_at (w0 : Int) (w : Way) (t : Int) : wayAt (mirW w0 w) t = (fun p : Int × Int => (w0 - 1 - p.1, p.2)) (wayAt w t) := by
  unfold wayAt mirW
  simp only [Prod.mk.injEq, and_true]
  have e : (t - w.1) * (0 - w.2.2.2.1) = -((t - w.1) * w.2.2.2.1) := by rw [Int.zero_sub, Int.mul_neg]
  rw [e]
  omega
theorem place_mir (n : Net) (i : Nat) (t : Int) : placeBy ((mirN n).houses.getD i []) t = (placeBy (n.houses.getD i []) t).map fun p => (n.wide - 1 - p.1, p.2) := by
  unfold mirN
  simp only
  rw [getD_map (fun h : House => h.map (mirW n.wide)) rfl]
  exact placeBy_map (φ := mirW n.wide) (ψ := fun p => (n.wide - 1 - p.1, p.2)) (fun _ => rfl) (mirW_at n.wide) t _
def symMir (n : Net) : Sym n (mirN n) where
  f := mirS n
  g := id
  ff := fun s => by
    obtain ⟨a, b, c⟩ := s
    unfold mirS
    simp only [Prod.mk.injEq, and_true]
    omega
  inn := fun s => by
    unfold inNet mirS mirN
    simp only
    omega
  rch := fun r t a b => by
    unfold reach mirS
    simp only
    constructor <;> intro h <;> omega
  fit := fun s g hg => by
    obtain ⟨p, hp⟩ := hg.at_
    have e : dueAt (mirN n) (mirS n s) (id g) = dueAt n s g := by
      unfold dueAt
      simp only [id]
      rw [place_mir, hp]
      simp only [Option.map_some, mirS]
      unfold farI
      rw [absI_neg (p.1 - s.1) (n.wide - 1 - p.1 - (n.wide - 1 - s.1)) (by omega)]
    unfold fitsB
    rw [e]
    rfl
  sok := fun g hg => by
    obtain ⟨p, hp⟩ := hg.at_
    refine ⟨hg.i0, ?_, hg.t0, hg.t1, hg.h0, hg.h1, ⟨_, by show placeBy ((mirN n).houses.getD g.1.toNat []) g.2.1 = _; rw [place_mir, hp]; rfl⟩⟩
    show g.1 < (((mirN n).houses.length : Nat) : Int)
    unfold mirN
    simp only [List.length_map]
    exact hg.i1
/-! ### sides exchanged -/
def excW (w : Way) : Way := (w.1, w.2.2.1, w.2.1, w.2.2.2.2, w.2.2.2.1)
def excN (n : Net) : Net := ⟨n.high, n.wide, n.clocks, n.slip, n.houses.map fun h => h.map excW⟩
def excS (s : Stand) : Stand := (s.2.1, s.1, s.2.2)
theorem place_exc (n : Net) (i : Nat) (t : Int) : placeBy ((excN n).houses.getD i []) t = (placeBy (n.houses.getD i []) t).map fun p => (p.2, p.1) := by
  unfold excN
  simp only
  rw [getD_map (fun h : House => h.map excW) rfl]
  exact placeBy_map (φ := excW) (ψ := fun p => (p.2, p.1)) (fun _ => rfl) (fun _ _ => rfl) t _
def symExc (n : Net) : Sym n (excN n) where
  f := excS
  g := id
  ff := fun s => rfl
  inn := fun s => by
    unfold inNet excS excN
    simp only
    omega
  rch := fun r t a b => by
    unfold reach excS
    simp only
    constructor <;> intro h <;> omega
  fit := fun s g hg => by
    obtain ⟨p, hp⟩ := hg.at_
    have e : dueAt (excN n) (excS s) (id g) = dueAt n s g := by
      unfold dueAt
      simp only [id]
      rw [place_exc, hp]
      simp only [Option.map_some, excS]
      unfold farI
      rw [maxI_comm]
    unfold fitsB
    rw [e]
    rfl
  sok := fun g hg => by
    obtain ⟨p, hp⟩ := hg.at_
    refine ⟨hg.i0, ?_, hg.t0, hg.t1, hg.h0, hg.h1, ⟨_, by show placeBy ((excN n).houses.getD g.1.toNat []) g.2.1 = _; rw [place_exc, hp]; rfl⟩⟩
    show g.1 < (((excN n).houses.length : Nat) : Int)
    unfold excN
    simp only [List.length_map]
    exact hg.i1
/-! ### the houses in another order -/
def revN (n : Net) : Net := { n with houses := n.houses.reverse }
def revG (n : Net) (g : Sign) : Sign := ((n.houses.length : Int) - 1 - g.1, g.2.1, g.2.2)
theorem rev_at (n : Net) {g : Sign} (h0 : 0 ≤ g.1) (h1 : g.1 < (n.houses.length : Int)) : (revN n).houses.getD (revG n g).1.toNat [] = n.houses.getD g.1.toNat [] := by
  unfold revN revG
  simp only [List.getD_eq_getElem?_getD]
  rw [List.getElem?_reverse (by omega)]
  have e : n.houses.length - 1 - ((n.houses.length : Int) - 1 - g.1).toNat = g.1.toNat := by omega
  rw [e]
def symRev (n : Net) : Sym n (revN n) where
  f := id
  g := revG n
  ff := fun s => rfl
  inn := fun s => Iff.rfl
  rch := fun r t a b => by simp
  fit := fun s g hg => by
    have e : dueAt (revN n) (id s) (revG n g) = dueAt n s g := by
      unfold dueAt
      rw [rev_at n hg.i0 hg.i1]
      rfl
    unfold fitsB
    rw [e]
    rfl
  sok := fun g hg => by
    obtain ⟨p, hp⟩ := hg.at_
    have h0 := hg.i0
    have h1 := hg.i1
    refine ⟨?_, ?_, hg.t0, hg.t1, hg.h0, hg.h1, ⟨p, ?_⟩⟩
    · show 0 ≤ (n.houses.length : Int) - 1 - g.1
      omega
    · show (n.houses.length : Int) - 1 - g.1 < (((revN n).houses.length : Nat) : Int)
      unfold revN
      simp only [List.length_reverse]
      omega
    · rw [rev_at n h0 h1]
      exact hp
end Fb
/-! The text by places; what is known of it behind the top; a def by its body. -/
namespace Fb
open PySem PySem.Spec PyProof.Rows L2
def top (i : Nat) : Stmt := PySem.Challenge.pw_farbeats_k91_whole_finders.main.body.getD i (.Pass ⟨0, 0, 0, 0⟩)
abbrev s_is_whole : Stmt := top 29
abbrev s_is_within : Stmt := top 30
abbrev s_rises : Stmt := top 31
abbrev s_is_way : Stmt := top 36
abbrev s_is_house : Stmt := top 37
abbrev s_place_by : Stmt := top 38
abbrev s_is_net : Stmt := top 45
abbrev s_need_net : Stmt := top 46
abbrev s_is_place : Stmt := top 47
abbrev s_is_stand_by : Stmt := top 48
abbrev s_need_stand : Stmt := top 49
abbrev s_all_stands : Stmt := top 50
abbrev s_far : Stmt := top 51
abbrev s_is_sign_by : Stmt := top 52
abbrev s_need_sign : Stmt := top 53
abbrev s_due_at : Stmt := top 54
abbrev s_slip_by : Stmt := top 55
abbrev s_fits_by : Stmt := top 56
abbrev s_need_signed : Stmt := top 57
abbrev s_fits : Stmt := top 58
abbrev s_is_rule : Stmt := top 62
abbrev s_need_rule : Stmt := top 63
abbrev s_spread : Stmt := top 64
abbrev s_widened : Stmt := top 65
abbrev s__law_said : Stmt := top 71
abbrev s__law_cell_at : Stmt := top 72
abbrev s__law_pen : Stmt := top 73
abbrev s__law_draw : Stmt := top 74
abbrev s__law_pick : Stmt := top 75
abbrev s__law_far : Stmt := top 76
abbrev s__law_way : Stmt := top 77
abbrev s__law_house : Stmt := top 78
abbrev s__law_net : Stmt := top 79
abbrev s__law_place_at : Stmt := top 80
abbrev s__law_stands : Stmt := top 81
abbrev s__law_heard : Stmt := top 82
abbrev s__law_rule : Stmt := top 83
abbrev s__law_step : Stmt := top 84
abbrev s__law_mirrored : Stmt := top 85
abbrev s__law_exchanged : Stmt := top 86
abbrev s__law_deeds : Stmt := top 87
abbrev s__law_led : Stmt := top 88
abbrev s__law_others_right : Stmt := top 89
abbrev s_law : Stmt := top 90
abbrev m___init__ : Stmt := inClass (top 68) 0
abbrev m_stand_so : Stmt := inClass (top 68) 1
abbrev m_hear : Stmt := inClass (top 68) 2
abbrev m_go : Stmt := inClass (top 68) 3
abbrev m_tick : Stmt := inClass (top 68) 5
abbrev m_stands : Stmt := inClass (top 68) 6
abbrev m___eq__ : Stmt := inClass (top 68) 10
/-- a def of the module, under its name -/
def Dfn (K : PySem.W.Frag) (mg : Str → Option Value) (x : Str) (st : Stmt) : Prop := ∃ f fd, Fun K x x st f fd ∧ mg x = some (.ref f)
/-- a method of the class at C -/
def Mth (K : PySem.W.Frag) (C : Addr) (x q : Str) (st : Stmt) : Prop := ∃ f fd, Fun K x q st f fd ∧ Meth K C x f
/-- BOUNDS: a written tuple of pairs -/
def Bnds (K : PySem.W.Frag) (mg : Str → Option Value) : Prop := ∃ a b0 b1 b2 b3 b4 : Addr, mg "BOUNDS" = some (.ref a) ∧ ∀ H : Hp, SqT K H a [.ref b0, .ref b1, .ref b2, .ref b3, .ref b4] ∧
  SqT K H b0 [.int 0, .int 255] ∧ SqT K H b1 [.int (-50), .int 100] ∧ SqT K H b2 [.int (-50), .int 100] ∧ SqT K H b3 [.int (-7), .int 7] ∧ SqT K H b4 [.int (-7), .int 7]
structure Txt (K : PySem.W.Frag) (mg : Str → Option Value) (C : Addr) : Prop where
  b_isinstance : mg "isinstance" = none
  b_int : mg "int" = none
  b_bool : mg "bool" = none
  b_all : mg "all" = none
  b_zip : mg "zip" = none
  b_tuple : mg "tuple" = none
  b_len : mg "len" = none
  b_range : mg "range" = none
  b_list : mg "list" = none
  b_max : mg "max" = none
  b_abs : mg "abs" = none
  b_sorted : mg "sorted" = none
  b_min : mg "min" = none
  b_sum : mg "sum" = none
  b_repr : mg "repr" = none
  c_MOST_WAYS : ∃ t, mg "MOST_WAYS" = some (.int 3 t)
  c_MOST_TICK : ∃ t, mg "MOST_TICK" = some (.int 300 t)
  c_MOST_SIDE : ∃ t, mg "MOST_SIDE" = some (.int 12 t)
  c_MOST_CLOCKS : ∃ t, mg "MOST_CLOCKS" = some (.int 12 t)
  c_MOST_SLIP : ∃ t, mg "MOST_SLIP" = some (.int 4 t)
  c_MOST_HOUSES : ∃ t, mg "MOST_HOUSES" = some (.int 6 t)
  c_MOST_HEARD : ∃ t, mg "MOST_HEARD" = some (.int 3000 t)
  c_MOST_FAR : ∃ t, mg "MOST_FAR" = some (.int 3 t)
  c_MOST_DRIFT : ∃ t, mg "MOST_DRIFT" = some (.int 2 t)
  c_MOST_TICKS : ∃ t, mg "MOST_TICKS" = some (.int 60 t)
  bounds : Bnds K mg
  d_is_whole : Dfn K mg "is_whole" s_is_whole
  d_is_within : Dfn K mg "is_within" s_is_within
  d_rises : Dfn K mg "rises" s_rises
  d_is_way : Dfn K mg "is_way" s_is_way
  d_is_house : Dfn K mg "is_house" s_is_house
  d_place_by : Dfn K mg "place_by" s_place_by
  d_is_net : Dfn K mg "is_net" s_is_net
  d_need_net : Dfn K mg "need_net" s_need_net
  d_is_place : Dfn K mg "is_place" s_is_place
  d_is_stand_by : Dfn K mg "is_stand_by" s_is_stand_by
  d_need_stand : Dfn K mg "need_stand" s_need_stand
  d_all_stands : Dfn K mg "all_stands" s_all_stands
  d_far : Dfn K mg "far" s_far
  d_is_sign_by : Dfn K mg "is_sign_by" s_is_sign_by
  d_need_sign : Dfn K mg "need_sign" s_need_sign
  d_due_at : Dfn K mg "due_at" s_due_at
  d_slip_by : Dfn K mg "slip_by" s_slip_by
  d_fits_by : Dfn K mg "fits_by" s_fits_by
  d_need_signed : Dfn K mg "need_signed" s_need_signed
  d_fits : Dfn K mg "fits" s_fits
  d_is_rule : Dfn K mg "is_rule" s_is_rule
  d_need_rule : Dfn K mg "need_rule" s_need_rule
  d_spread : Dfn K mg "spread" s_spread
  d_widened : Dfn K mg "widened" s_widened
  d__law_said : Dfn K mg "_law_said" s__law_said
  d__law_cell_at : Dfn K mg "_law_cell_at" s__law_cell_at
  d__law_pen : Dfn K mg "_law_pen" s__law_pen
  d__law_draw : Dfn K mg "_law_draw" s__law_draw
  d__law_pick : Dfn K mg "_law_pick" s__law_pick
  d__law_far : Dfn K mg "_law_far" s__law_far
  d__law_way : Dfn K mg "_law_way" s__law_way
  d__law_house : Dfn K mg "_law_house" s__law_house
  d__law_net : Dfn K mg "_law_net" s__law_net
  d__law_place_at : Dfn K mg "_law_place_at" s__law_place_at
  d__law_stands : Dfn K mg "_law_stands" s__law_stands
  d__law_heard : Dfn K mg "_law_heard" s__law_heard
  d__law_rule : Dfn K mg "_law_rule" s__law_rule
  d__law_step : Dfn K mg "_law_step" s__law_step
  d__law_mirrored : Dfn K mg "_law_mirrored" s__law_mirrored
  d__law_exchanged : Dfn K mg "_law_exchanged" s__law_exchanged
  d__law_deeds : Dfn K mg "_law_deeds" s__law_deeds
  d__law_led : Dfn K mg "_law_led" s__law_led
  d__law_others_right : Dfn K mg "_law_others_right" s__law_others_right
  cl : Cls K C
  mgC : mg "Finder" = some (.ref C)
  n_own_net : NoAttr K C "own_net"
  n_own_rule : NoAttr K C "own_rule"
  n_now : NoAttr K C "now"
  n_past : NoAttr K C "past"
  i_init : ∃ f fd, Fun K "__init__" "Finder.__init__" m___init__ f fd ∧ Mk K C f
  m_stand_so : Mth K C "stand_so" "Finder.stand_so" m_stand_so
  m_hear : Mth K C "hear" "Finder.hear" m_hear
  m_go : Mth K C "go" "Finder.go" m_go
  m_tick : Mth K C "tick" "Finder.tick" m_tick
  m_stands : Mth K C "stands" "Finder.stands" m_stands
  m___eq__ : Mth K C "__eq__" "Finder.__eq__" m___eq__
  kcls : PySem.W.findIn K (.ref C) "__class__" = some (some (.builtin "object.__class__"))
  kget : PySem.W.specialIn K (.builtin "object.__class__") "__get__" = some (some (.builtin "getset_descriptor.__get__"))
  ktak : PySem.W.takesIn K (.builtin "object.__class__") = some true
  kmro : PySem.W.mroIn K C (.type "object") = some true
  kone : PySem.W.kitOne K (.ref C) (.ref C) = some true
  kne : PySem.W.findIn K (.ref C) "__ne__" = some (some (.builtin "object.__ne__"))
/-- a def that may be called by its name -/
structure Cl (P : Program) (w : World) (K : PySem.W.Frag) (mg : Str → Option Value) (base : Heap) (k : Nat) (x : Str) (sp : Sp) : Prop where
  ex : ∃ (f : Addr) (fd : FuncData) (ps : List Str), FnOk P w K mg base CX0 k f fd ps sp ∧ mg x = some (.ref f) ∧ PySem.W.keepIn K (.ref f) = true ∧ Binds K fd ps []
/-- a method that may be called -/
structure Mc (P : Program) (w : World) (K : PySem.W.Frag) (mg : Str → Option Value) (base : Heap) (k : Nat) (C : Addr) (x : Str) (sp : Sp) : Prop where
  ex : ∃ (f : Addr) (fd : FuncData) (ps : List Str), FnOk P w K mg base CX0 k f fd ps sp ∧ Meth K C x f ∧ Binds K fd ps []
section
variable {P : Program} {w : World} {K : PySem.W.Frag} {mg : Str → Option Value} {base : Heap} {C : Addr}
/-- how the arguments of a def bind: every parameter is given -/
abbrev Bd (x q : Str) (st : Stmt) (ps : List Str) : Prop := ∀ (kV doc pm : Value) (an : Option Addr) (cdv ct : Value) (us : List Value), us.length = ps.length → bindArgs (PySem.W.fnOf x q (defArgs st) (defBody st) (defScope st) .none kV doc pm an cdv ct) ⟨us, []⟩ = pure (ps.zip us)
/-- what a def's body owes -/
abbrev Body (P : Program) (w : World) (K : PySem.W.Frag) (mg : Str → Option Value) (base : Heap) (k : Nat) (q : Str) (st : Stmt) (N : List Str) (sp : Sp) : Prop :=
  ∀ (f : Addr) (cdv : Value) (A : Around) (outer : List Env) (s : Shared) (H : Hp) (vs : List V) (Q : VK) (E : XK), Room k (A.deeper (envOfC q (defScope st) s.heap.objs.size f cdv)) → sp vs H Q E →
    ∃ t, PSs (cxOf CX0 P w K mg base N q (defScope st) f cdv A outer s H E).nox (defBody st) t ∧ t { nx := fun _ H' => Q .non H', rt := Q } (start N vs) H
theorem Dfn.mk {x : Str} {st : Stmt} {N ps : List Str} {k : Nat} {sp : Sp} (D : Dfn K mg x st) (hb : Bd x x st ps) (S : FnScope N ps (defScope st)) (len : ∀ vs H Q E, sp vs H Q E → vs.length = ps.length) (b : Body P w K mg base k x st N sp) : Cl P w K mg base (k + 1) x sp := by
  obtain ⟨f, fd, F, g⟩ := D
  exact ⟨f, fd, ps, F.ok S len fun cdv A outer s H vs Q E hr h => b f cdv A outer s H vs Q E hr h, g, F.kp, F.binds hb⟩
theorem Mth.mk {x q : Str} {st : Stmt} {N ps : List Str} {k : Nat} {sp : Sp} (D : Mth K C x q st) (hb : Bd x q st ps) (S : FnScope N ps (defScope st)) (len : ∀ vs H Q E, sp vs H Q E → vs.length = ps.length) (b : Body P w K mg base k q st N sp) : Mc P w K mg base (k + 1) C x sp := by
  obtain ⟨f, fd, F, g⟩ := D
  exact ⟨f, fd, ps, F.ok S len fun cdv A outer s H vs Q E hr h => b f cdv A outer s H vs Q E hr h, g, F.binds hb⟩
end
section
variable {X : Cx} {k j : Nat} {C : Addr} {x m : Str} {sp : Sp} {p pos apos : Pos} {e o : Expr} {es : List Expr} {ta : TE} {t : TA}
theorem pe_f (c : Cl X.prog X.w X.K X.mg X.base k x sp) (hr : Room j X.A) (ha : PA X (e :: es) t) (hk : k ≤ j := by decide) (hg : Gl X x := by rfl)
    (hdb : (x == ("__debug__" : Str)) = false := by decide) (he : starEach (e :: es) X.env = (false, eval e X.env) :: starEach es X.env := by rfl) (hpl : (backTo pos (starEach es X.env)).any (·.1) = false := by rfl) :
    PE X (.Call (.Name x p) (e :: es) [] pos) (tCall sp [] E0 t) := by
  obtain ⟨f, fd, ps, F, hm, kp, b⟩ := c.ex
  exact pe_call F (hr.mono hk) hg hm kp b .nil pass0 ha hdb he hpl
/-- a module's whole number -/
theorem pe_gi {x : Str} {i : Int} {pos : Pos} (hm : ∃ t, X.mg x = some (.int i t)) (hg : Gl X x := by rfl) (hd : (x == ("__debug__" : Str)) = false := by decide) : PE X (.Name x pos) (tC (.int i)) := by
  obtain ⟨t, hm⟩ := hm
  exact pe_glob hg hm ⟨t, rfl⟩ hd
/-- one that is there -/
theorem pe_mm {pl : Sem Bool} (c : Mc X.prog X.w X.K X.mg X.base k C m sp) (cl : Cls X.K C) (hr : Room j X.A) (he : PE X o ta) (ha : PA X (e :: es) t) (hk : k ≤ j := by decide)
    (hst : starEach (e :: es) X.env = (false, eval e X.env) :: starEach es X.env := by rfl) (hpl : (backTo pos (starEach es X.env)).any (·.1) = false := by rfl)
    (ht : eval (.Call (.Attribute o m apos) (e :: es) [] pos) X.env = (do
      let ov ← eval o X.env
      standAt apos.atName
      let (f, first) ← holding [ov] (getMethod ov m pl)
      callWith pos f first (backTo pos (starEach (e :: es) X.env)) []) := by rfl) : PE X (.Call (.Attribute o m apos) (e :: es) [] pos) (tMeth C m sp [] E0 ta t) := by
  obtain ⟨f, fd, ps, F, hm, b⟩ := c.ex
  exact pe_meth he cl hm F (hr.mono hk) b .nil pass0 ha hst hpl ht
end
end Fb
/-! Data: how nets, stands, signs, logs lie in the heap; what stays. -/
namespace Fb
open PySem PySem.Spec PyProof.Rows L2
/-! ### data as trees of tuples -/
def tt : Nat → PyData → Bool
  | _, .int _ => true
  | k + 1, .tuple ds => ds.all (tt k)
  | _, _ => false
theorem tt_int (k : Nat) (i : Int) : tt k (.int i) = true := by cases k <;> rfl
theorem tt_lay : ∀ (k : Nat) (d : PyData), tt k d = true → d.canLay0 = true ∧ d.depth ≤ k
  | k, .int i, _ => by simp [PyData.canLay0, PyData.depth]
  | 0, .tuple ds, h => by simp [tt] at h
  | k + 1, .tuple ds, h => by
    have h' : ds.all (tt k) = true := h
    have hall : ∀ d ∈ ds, d.canLay0 = true ∧ d.depth ≤ k := fun d hd => tt_lay k d (List.all_eq_true.mp h' d hd)
    have key : ∀ l : List PyData, (∀ d ∈ l, d.canLay0 = true ∧ d.depth ≤ k) → PyData.canLayAll0 l = true ∧ PyData.depthAll l ≤ k := fun l => by
      induction l with
      | nil => exact fun _ => by simp [PyData.canLayAll0, PyData.depthAll]
      | cons d l ih =>
        intro hl
        have h1 := hl d List.mem_cons_self
        have h2 := ih fun e he => hl e (List.mem_cons_of_mem _ he)
        simp only [PyData.canLayAll0, PyData.depthAll, h1.1, h2.1, Bool.and_self, true_and]
        omega
    obtain ⟨a, b⟩ := key ds hall
    simp only [PyData.canLay0, PyData.depth, a, true_and]
    omega
  | k, .none, h => by cases k <;> simp [tt] at h
  | k, .bool _, h => by cases k <;> simp [tt] at h
  | k, .str _, h => by cases k <;> simp [tt] at h
  | k, .list _, h => by cases k <;> simp [tt] at h
  | k, .dict _, h => by cases k <;> simp [tt] at h
theorem tt_shaped {k : Nat} {d : PyData} (hk : k ≤ 64) (h : tt k d = true) : SeqAt.shaped d = true := by
  obtain ⟨a, b⟩ := tt_lay k d h
  show (d.canLay0 && decide (d.depth ≤ 64)) = true
  rw [a, decide_eq_true (Nat.le_trans b hk)]
  rfl
theorem tt_shapedL {k : Nat} {ds : List PyData} (hk : k < 64) (h : ∀ d ∈ ds, tt k d = true) : SeqAt.shaped (.list ds) = true := by
  have h1 := tt_lay (k + 1) (.tuple ds) (List.all_eq_true.mpr h)
  show (PyData.canLay0 (.list ds) && decide (PyData.depth (.list ds) ≤ 64)) = true
  have e1 : PyData.canLay0 (.list ds) = PyData.canLay0 (.tuple ds) := by simp only [PyData.canLay0]
  have e2 : PyData.depth (.list ds) = PyData.depth (.tuple ds) := by simp only [PyData.depth]
  rw [e1, e2, h1.1, decide_eq_true (Nat.le_trans h1.2 hk)]
  rfl
def encS (s : Int × Int × Int) : PyData := .tuple [.int s.1, .int s.2.1, .int s.2.2]
def encT (S : List (Int × Int × Int)) : PyData := .tuple (S.map encS)
def encW (w : Way) : PyData := .tuple [.int w.1, .int w.2.1, .int w.2.2.1, .int w.2.2.2.1, .int w.2.2.2.2]
def encH (h : House) : PyData := .tuple (h.map encW)
def encN (n : Net) : PyData := .tuple [.int n.wide, .int n.high, .int n.clocks, .int n.slip, .tuple (n.houses.map encH)]
def encR (r : Rule) : PyData := .tuple [.int r.1, .int r.2]
def encE (e : Int × List Sign) : PyData := .tuple [.int e.1, encT e.2]
def encL (l : List (Int × List Sign)) : PyData := .tuple (l.map encE)
def encP (p : Int × Int) : PyData := .tuple [.int p.1, .int p.2]
theorem tt_map {α : Type} {k : Nat} {f : α → PyData} (h : ∀ x, tt k (f x) = true) (l : List α) : tt (k + 1) (.tuple (l.map f)) = true := by
  show (l.map f).all (tt k) = true
  rw [List.all_map]
  exact List.all_eq_true.mpr fun x _ => h x
theorem tt_S (s) : tt 1 (encS s) = true := rfl
theorem tt_T (S) : tt 2 (encT S) = true := tt_map tt_S S
theorem tt_W (w) : tt 1 (encW w) = true := rfl
theorem tt_H (h) : tt 2 (encH h) = true := tt_map tt_W h
theorem tt_N (n : Net) : tt 4 (encN n) = true := by
  have h := tt_map tt_H n.houses
  show (true && (true && (true && (true && (tt 3 (.tuple (n.houses.map encH)) && true))))) = true
  rw [h]
  rfl
theorem tt_R (r) : tt 1 (encR r) = true := rfl
theorem tt_P (p) : tt 1 (encP p) = true := rfl
theorem tt_E (e) : tt 3 (encE e) = true := by
  show (true && (tt 2 (encT e.2) && true)) = true
  rw [tt_T]
  rfl
theorem tt_L (l) : tt 4 (encL l) = true := tt_map tt_E l
theorem tt_any : ∀ (k : Nat) (d : PyData), tt k d = true → tt (k + 1) d = true
  | k, .int i, _ => tt_int _ i
  | 0, .tuple ds, h => by simp [tt] at h
  | k + 1, .tuple ds, h => by
    have h' : ds.all (tt k) = true := h
    exact List.all_eq_true.mpr fun d hd => tt_any k d (List.all_eq_true.mp h' d hd)
  | k, .none, h => by cases k <;> simp [tt] at h
  | k, .bool _, h => by cases k <;> simp [tt] at h
  | k, .str _, h => by cases k <;> simp [tt] at h
  | k, .list _, h => by cases k <;> simp [tt] at h
  | k, .dict _, h => by cases k <;> simp [tt] at h
theorem eqv_S (a b : Int × Int × Int) : PyData.eqv (encS a) (encS b) = decide (a = b) := by
  obtain ⟨a1, a2, a3⟩ := a
  obtain ⟨b1, b2, b3⟩ := b
  have e : PyData.eqv (encS (a1, a2, a3)) (encS (b1, b2, b3)) = ((a1 == b1) && ((a2 == b2) && ((a3 == b3) && true))) := by simp only [encS, PyData.eqv, PyData.eqvAll]
  rw [e]
  by_cases h1 : a1 = b1 <;> by_cases h2 : a2 = b2 <;> by_cases h3 : a3 = b3 <;> simp [h1, h2, h3]
theorem any_S (S : List (Int × Int × Int)) (s : Int × Int × Int) : ((S.map encS).any fun z => PyData.eqv z (encS s)) = decide (s ∈ S) := by
  rw [List.any_map]
  by_cases h : s ∈ S
  · rw [decide_eq_true h]
    exact List.any_eq_true.mpr ⟨s, h, by simp [eqv_S]⟩
  · rw [decide_eq_false h]
    exact List.any_eq_false.mpr fun x hx => by
      simp only [Function.comp, eqv_S, decide_eq_true_iff]
      rintro rfl
      exact h hx
theorem eqv_nil {α : Type} (f : α → PyData) (l : List α) : PyData.eqv (.tuple (l.map f)) (.tuple []) = l.isEmpty := by
  cases l with
  | nil => simp [PyData.eqv, PyData.eqvAll]
  | cons a l => simp [PyData.eqv, PyData.eqvAll]
/-! ### what stays -/
/-- what never changes -/
def imm (tb : Bool) : HO → Bool
  | .tup _ => true
  | .frz _ _ => true
  | .ext _ => true
  | .tbl _ => tb
  | _ => false
/-- tables are kept too, or not -/
def okO (tb : Bool) (o : HO) : Prop := tb = true ∨ ∀ q, o ≠ .tbl q
/-- all is kept but what stands at ps -/
structure Ex (tb : Bool) (ps : List Addr) (H H' : Hp) : Prop where
  keep : ∀ b o, b ∉ ps → okO tb o → H b = some o → H' b = some o
  still : ∀ b o, imm tb o = true → H b = some o → H' b = some o
section
variable {tb : Bool} {ps ps' : List Addr} {H H1 H2 H' : Hp} {p : Addr} {o : HO} {K : PySem.W.Frag}
theorem Ex.refl : Ex tb ps H H := ⟨fun _ _ _ _ h => h, fun _ _ _ h => h⟩
theorem Ex.trans (a : Ex tb ps H H1) (b : Ex tb ps H1 H2) : Ex tb ps H H2 := ⟨fun c u n k h => b.keep c u n k (a.keep c u n k h), fun c u i h => b.still c u i (a.still c u i h)⟩
theorem Ex.mono (a : Ex tb ps H H1) (h : ∀ b ∈ ps, b ∈ ps') : Ex tb ps' H H1 := ⟨fun c u n k e => a.keep c u (fun z => n (h c z)) k e, a.still⟩
theorem Ex.nil (a : Ex tb [] H H1) : Ex tb ps H H1 := a.mono fun _ h => by cases h
theorem Ex.weak (a : Ex true ps H H1) : Ex tb ps H H1 := ⟨fun c u n _ e => a.keep c u n (.inl rfl) e, fun c u i e => a.still c u (by cases u <;> first | rfl | exact i | cases i) e⟩
/-- a new object -/
theorem Ex.new (a : Ex tb ps H H1) (h : H1 p = none) : Ex tb ps H (upd H1 p o) :=
  ⟨fun c u n k e => by rw [upd_ne (ne_of_none (a.keep c u n k e) h)]; exact a.keep c u n k e, fun c u i e => by rw [upd_ne (ne_of_none (a.still c u i e) h)]; exact a.still c u i e⟩
theorem Ex.one (h : H p = none) : Ex true [] H (upd H p o) := Ex.new .refl h
/-- what was not there -/
def Nw (tb : Bool) (H : Hp) (p : Addr) : Prop := ∀ o, okO tb o → H p ≠ some o
theorem Nw.of (h : H p = none) : Nw tb H p := fun o _ e => by rw [h] at e; cases e
theorem Ex.nw (a : Ex tb ps H H1) (h : H1 p = none) (hn : p ∉ ps := by simp) : Nw tb H p := fun o k e => by rw [a.keep p o hn k e] at h; cases h
theorem Ex.nws (a : Ex tb ps H H1) (h : Nw tb H1 p) (hn : p ∉ ps := by simp) : Nw tb H p := fun o k e => h o k (a.keep p o hn k e)
/-- an object that may change, or that was not there -/
theorem Ex.put (a : Ex tb ps H H1) (hp : p ∈ ps ∨ Nw tb H p) (hi : ∀ u, H1 p = some u → imm tb u = false) : Ex tb ps H (upd H1 p o) := by
  refine ⟨fun c u n k e => ?_, fun c u i e => ?_⟩
  · by_cases hc : c = p
    · subst hc
      rcases hp with z | z
      · exact absurd z n
      · exact absurd e (z u k)
    · rw [upd_ne hc]
      exact a.keep c u n k e
  · have e1 := a.still c u i e
    have hc : c ≠ p := fun z => by
      subst z
      rw [hi u e1] at i
      cases i
    rw [upd_ne hc]
    exact e1
theorem Ex.drop (a : Ex tb (p :: ps) H H1) (h : Nw tb H p) : Ex tb ps H H1 := ⟨fun c u n k e => a.keep c u (fun z => (List.mem_cons.mp z).elim (fun z => h u k (by rw [← z]; exact e)) n) k e, a.still⟩
/-- a list of one's own grows -/
theorem Ex.app (a : Ex tb ps H H1) (hp : p ∈ ps ∨ Nw tb H p) {xs ys : List V} (h : H1 p = some (.lst xs)) : Ex tb ps H (upd H1 p (.lst ys)) := a.put hp fun u hu => by
  rw [h] at hu
  cases hu
  rfl
theorem Ex.of_same (h : Same H H1) : Ex tb [] H H1 := ⟨fun b o _ _ e => h b o e, fun b o _ e => h b o e⟩
theorem Ex.same (h : Ex true [] H H1) : Same H H1 := fun b o e => h.keep b o (by simp) (.inl rfl) e
theorem Ex.extN (h : LamX.ExtN H H1) (hs : ∀ b q, H b = some (.tbl q) → True) : Ex false [] H H1 := ⟨fun b o _ k e => h b o e (k.elim (fun z => by cases z) id), fun b o i e => h b o e fun q z => by subst z; cases i⟩
theorem Ex.lst (a : Ex tb ps H H1) {xs : List V} (h : H p = some (.lst xs)) (hn : p ∉ ps) : H1 p = some (.lst xs) := a.keep p _ hn (.inr fun q z => by cases z) h
theorem Ex.ins (a : Ex tb ps H H1) {C dx : Addr} {fs : List (Str × V)} (h : H p = some (.ins C dx fs)) (hn : p ∉ ps) : H1 p = some (.ins C dx fs) := a.keep p _ hn (.inr fun q z => by cases z) h
theorem Ex.tup (a : Ex tb ps H H1) {xs : List V} (h : H p = some (.tup xs)) : H1 p = some (.tup xs) := a.still p _ rfl h
theorem Ex.sqT (a : Ex tb ps H H1) {xs : List V} (h : SqT K H p xs) : SqT K H1 p xs := by
  rcases h with (h | ⟨o, h⟩) | h
  · exact .inl (.inl (a.tup h))
  · exact .inl (.inr ⟨o, a.still p _ rfl h⟩)
  · exact .inr h
theorem Ex.sqF (a : Ex tb ps H H1) {xs : List V} (h : SqL K H p xs) (hn : H p = some (.lst xs) → p ∉ ps) : SqL K H1 p xs := by
  rcases h with (h | ⟨o, h⟩) | h
  · exact .inl (.inl (a.lst h (hn h)))
  · exact .inl (.inr ⟨o, a.still p _ rfl h⟩)
  · exact .inr h
mutual
theorem Ex.dp (a : Ex tb ps H H1) : ∀ {k : Nat} {v : V} {d : PyData}, tt k d = true → Dp K H v d → Dp K H1 v d
  | _, _, .int _, _, h => by cases h; exact .int _
  | k, _, .tuple ds, ht, h => by
    cases k with
    | zero => simp [tt] at ht
    | succ k =>
      cases h with
      | tup hs ha => exact .tup (a.sqT hs) (Ex.dpAll a (k := k) (fun d hd => List.all_eq_true.mp (show ds.all (tt k) = true from ht) d hd) ha)
  | k, _, .none, h, _ => by cases k <;> simp [tt] at h
  | k, _, .bool _, h, _ => by cases k <;> simp [tt] at h
  | k, _, .str _, h, _ => by cases k <;> simp [tt] at h
  | k, _, .list _, h, _ => by cases k <;> simp [tt] at h
  | k, _, .dict _, h, _ => by cases k <;> simp [tt] at h
theorem Ex.dpAll (a : Ex tb ps H H1) : ∀ {k : Nat} {vs : List V} {ds : List PyData}, (∀ d ∈ ds, tt k d = true) → DpAll K H vs ds → DpAll K H1 vs ds
  | _, _, [], _, h => by cases h; exact .nil
  | k, _, d :: ds, ht, h => by
    cases h with
    | cons h1 h2 => exact .cons (Ex.dp a (ht d List.mem_cons_self) h1) (Ex.dpAll a (fun e he => ht e (List.mem_cons_of_mem _ he)) h2)
end
end
end Fb
namespace L2
open PySem PySem.Spec PyProof.Rows Fb
/-! ### data in the heap -/
section
variable {K : PySem.W.Frag} {H : Hp}
theorem Dp.i {v : V} {i : Int} (h : Dp K H v (.int i)) : v = .int i := by cases h; rfl
theorem Dp.t {v : V} {ds : List PyData} (h : Dp K H v (.tuple ds)) : ∃ a xs, v = .ref a ∧ SqT K H a xs ∧ DpAll K H xs ds := by
  cases h with
  | tup hs ha => exact ⟨_, _, rfl, hs, ha⟩
theorem DpAll.paired {α : Type} {f : α → PyData} : ∀ {vs : List V} {l : List α}, DpAll K H vs (l.map f) → Paired (fun v x => Dp K H v (f x)) vs l
  | _, [], h => by
    have h' : DpAll K H _ [] := h
    cases h'
    exact .nil
  | _, x :: l, h => by
    have h' : DpAll K H _ (f x :: l.map f) := h
    cases h' with
    | cons h1 h2 => exact .cons h1 (DpAll.paired h2)
theorem DpAll.of {α : Type} {f : α → PyData} : ∀ {vs : List V} {l : List α}, Paired (fun v x => Dp K H v (f x)) vs l → DpAll K H vs (l.map f)
  | _, _, .nil => .nil
  | _, _, .cons h t => .cons h (DpAll.of t)
theorem Dp.seq {α : Type} {f : α → PyData} {v : V} {l : List α} (h : Dp K H v (.tuple (l.map f))) : ∃ a xs, v = .ref a ∧ SqT K H a xs ∧ Paired (fun v x => Dp K H v (f x)) xs l := by
  obtain ⟨a, xs, e, h1, h2⟩ := h.t
  exact ⟨a, xs, e, h1, h2.paired⟩
theorem Dp.ofSeq {α : Type} {f : α → PyData} {a : Addr} {xs : List V} {l : List α} (h : SqT K H a xs) (p : Paired (fun v x => Dp K H v (f x)) xs l) : Dp K H (.ref a) (.tuple (l.map f)) := .tup h (DpAll.of p)
theorem Dp.s {v : V} {s : Int × Int × Int} (h : Dp K H v (encS s)) : ∃ a, v = .ref a ∧ SqT K H a [.int s.1, .int s.2.1, .int s.2.2] := by
  obtain ⟨a, xs, e, h1, h2⟩ := h.t
  refine ⟨a, e, ?_⟩
  cases h2 with
  | cons q1 h2 =>
    cases h2 with
    | cons q2 h2 =>
      cases h2 with
      | cons q3 h2 =>
        cases h2
        rw [q1.i, q2.i, q3.i] at h1
        exact h1
theorem Dp.ofS {a : Addr} {s : Int × Int × Int} (h : SqT K H a [.int s.1, .int s.2.1, .int s.2.2]) : Dp K H (.ref a) (encS s) := .tup h (.cons (.int _) (.cons (.int _) (.cons (.int _) .nil)))
theorem Dp.p {v : V} {s : Int × Int} (h : Dp K H v (encP s)) : ∃ a, v = .ref a ∧ SqT K H a [.int s.1, .int s.2] := by
  obtain ⟨a, xs, e, h1, h2⟩ := h.t
  refine ⟨a, e, ?_⟩
  cases h2 with
  | cons q1 h2 =>
    cases h2 with
    | cons q2 h2 =>
      cases h2
      rw [q1.i, q2.i] at h1
      exact h1
theorem Dp.ofP {a : Addr} {s : Int × Int} (h : SqT K H a [.int s.1, .int s.2]) : Dp K H (.ref a) (encP s) := .tup h (.cons (.int _) (.cons (.int _) .nil))
theorem Dp.w {v : V} {s : Way} (h : Dp K H v (encW s)) : ∃ a, v = .ref a ∧ SqT K H a [.int s.1, .int s.2.1, .int s.2.2.1, .int s.2.2.2.1, .int s.2.2.2.2] := by
  obtain ⟨a, xs, e, h1, h2⟩ := h.t
  refine ⟨a, e, ?_⟩
  cases h2 with
  | cons q1 h2 =>
    cases h2 with
    | cons q2 h2 =>
      cases h2 with
      | cons q3 h2 =>
        cases h2 with
        | cons q4 h2 =>
          cases h2 with
          | cons q5 h2 =>
            cases h2
            rw [q1.i, q2.i, q3.i, q4.i, q5.i] at h1
            exact h1
theorem Dp.ofW {a : Addr} {s : Way} (h : SqT K H a [.int s.1, .int s.2.1, .int s.2.2.1, .int s.2.2.2.1, .int s.2.2.2.2]) : Dp K H (.ref a) (encW s) := .tup h (.cons (.int _) (.cons (.int _) (.cons (.int _) (.cons (.int _) (.cons (.int _) .nil)))))
theorem Dp.n {v : V} {n : Net} (h : Dp K H v (encN n)) : ∃ a b hs, v = .ref a ∧ SqT K H a [.int n.wide, .int n.high, .int n.clocks, .int n.slip, .ref b] ∧ SqT K H b hs ∧ Paired (fun v x => Dp K H v (encH x)) hs n.houses := by
  obtain ⟨a, xs, e, h1, h2⟩ := h.t
  cases h2 with
  | cons q1 h2 =>
    cases h2 with
    | cons q2 h2 =>
      cases h2 with
      | cons q3 h2 =>
        cases h2 with
        | cons q4 h2 =>
          cases h2 with
          | cons q5 h2 =>
            cases h2
            obtain ⟨b, hs, eb, g1, g2⟩ := q5.seq
            rw [q1.i, q2.i, q3.i, q4.i, eb] at h1
            exact ⟨a, b, hs, e, h1, g1, g2⟩
theorem Dp.ofN {a b : Addr} {hs : List V} {n : Net} (h : SqT K H a [.int n.wide, .int n.high, .int n.clocks, .int n.slip, .ref b]) (g : SqT K H b hs) (p : Paired (fun v x => Dp K H v (encH x)) hs n.houses) : Dp K H (.ref a) (encN n) :=
  .tup h (.cons (.int _) (.cons (.int _) (.cons (.int _) (.cons (.int _) (.cons (Dp.ofSeq g p) .nil)))))
theorem Dp.r {v : V} {r : Rule} (h : Dp K H v (encR r)) : ∃ a, v = .ref a ∧ SqT K H a [.int r.1, .int r.2] := Dp.p (s := r) h
end
end L2
namespace PySem
theorem Paired.at_ {α β : Type} {F : α → β → Prop} : ∀ {l₁ : List α} {l₂ : List β} {i : Nat} {x : α}, Paired F l₁ l₂ → l₁[i]? = some x → ∃ y, l₂[i]? = some y ∧ F x y
  | _, _, _, _, .nil, e => by simp at e
  | _, _, 0, _, .cons r _, e => by simp at e; subst e; exact ⟨_, rfl, r⟩
  | _, _, i + 1, x, .cons _ t, e => by
    obtain ⟨u, h1, h2⟩ := Paired.at_ (i := i) (x := x) t (by simpa using e)
    exact ⟨u, by simpa using h1, h2⟩
theorem Paired.to {α β : Type} {F : α → β → Prop} : ∀ {l₁ : List α} {l₂ : List β} {i : Nat} {y : β}, Paired F l₁ l₂ → l₂[i]? = some y → ∃ x, l₁[i]? = some x ∧ F x y
  | _, _, _, _, .nil, e => by simp at e
  | _, _, 0, _, .cons r _, e => by simp at e; subst e; exact ⟨_, rfl, r⟩
  | _, _, i + 1, x, .cons _ t, e => by
    obtain ⟨u, h1, h2⟩ := Paired.to (i := i) (y := x) t (by simpa using e)
    exact ⟨u, by simpa using h1, h2⟩
theorem Paired.take_ {α β : Type} {F : α → β → Prop} : ∀ {l₁ : List α} {l₂ : List β} (n : Nat), Paired F l₁ l₂ → Paired F (l₁.take n) (l₂.take n)
  | _, _, 0, _ => .nil
  | _, _, _ + 1, .nil => .nil
  | _, _, n + 1, .cons r t => .cons r (Paired.take_ n t)
theorem Paired.app {α β : Type} {F : α → β → Prop} : ∀ {l₁ m₁ : List α} {l₂ m₂ : List β}, Paired F l₁ l₂ → Paired F m₁ m₂ → Paired F (l₁ ++ m₁) (l₂ ++ m₂)
  | _, _, _, _, .nil, s => s
  | _, _, _, _, .cons r t, s => .cons r (Paired.app t s)
theorem Paired.rev {α β : Type} {F : α → β → Prop} : ∀ {l₁ : List α} {l₂ : List β}, Paired F l₁ l₂ → Paired F l₁.reverse l₂.reverse
  | _, _, .nil => .nil
  | _, _, .cons r t => by
    rw [List.reverse_cons, List.reverse_cons]
    exact Paired.app (Paired.rev t) (.cons r .nil)
end PySem
namespace Fb
open PySem PySem.Spec PyProof.Rows L2
section
variable {tb : Bool} {ps : List Addr} {H H1 : Hp} {K : PySem.W.Frag}
theorem Ex.pr {α : Type} {f : α → PyData} {k : Nat} (a : Ex tb ps H H1) (ht : ∀ x, tt k (f x) = true) {vs : List V} {l : List α} (p : Paired (fun v x => Dp K H v (f x)) vs l) : Paired (fun v x => Dp K H1 v (f x)) vs l := L2.Paired.mapP p fun v x h => a.dp (ht x) h
theorem Ex.net (a : Ex tb ps H H1) {v : V} {n : Net} (h : Dp K H v (encN n)) : Dp K H1 v (encN n) := a.dp (tt_N n) h
theorem Ex.stand (a : Ex tb ps H H1) {v : V} {s : Int × Int × Int} (h : Dp K H v (encS s)) : Dp K H1 v (encS s) := a.dp (tt_S s) h
theorem Ex.stands (a : Ex tb ps H H1) {v : V} {s : List (Int × Int × Int)} (h : Dp K H v (encT s)) : Dp K H1 v (encT s) := a.dp (tt_T s) h
theorem Ex.rule (a : Ex tb ps H H1) {v : V} {s : Rule} (h : Dp K H v (encR s)) : Dp K H1 v (encR s) := a.dp (tt_R s) h
theorem Ex.house (a : Ex tb ps H H1) {v : V} {s : House} (h : Dp K H v (encH s)) : Dp K H1 v (encH s) := a.dp (tt_H s) h
theorem Ex.log (a : Ex tb ps H H1) {v : V} {s : List (Int × List Sign)} (h : Dp K H v (encL s)) : Dp K H1 v (encL s) := a.dp (tt_L s) h
end
end Fb
namespace Fb
open PySem PySem.Spec PyProof.Rows L2
variable {P : Program} {w : World} {K : PySem.W.Frag} {mg : Str → Option Value} {base : Heap} {C : Addr}
/-! ### looks -/
theorem kit_ii {K : PySem.W.Frag} : PySem.W.kitOne K (.type "int") (.type "int") = some true := kit_ty (by decide +kernel)
theorem kit_ib {K : PySem.W.Frag} : PySem.W.kitOne K (.type "int") (.type "bool") = some false := kit_ty (by decide +kernel)
theorem kit_tt {K : PySem.W.Frag} : PySem.W.kitOne K (.type "tuple") (.type "tuple") = some true := kit_ty (by decide +kernel)
theorem tyT {K : PySem.W.Frag} {H : Hp} {a : Addr} {xs : List V} (h : SqT K H a xs) : TyX K H (.ref a) (.type "tuple") := by
  rcases h with (h | ⟨o, h⟩) | ⟨o, its, n, h, c, _⟩
  · exact .base (.tup h)
  · exact .fTuple h
  · exact .kTuple h c
theorem atI_of {α : Type} {xs : List α} {i : Int} {v : α} (h0 : 0 ≤ i) (h : xs[i.toNat]? = some v) : atI xs i = some v := by
  have e : ((i.toNat : Nat) : Int) = i := by omega
  rw [← e]
  exact atI_nat h
theorem ne_int {i j : Int} (h : i = j) : (!decide (V.int i = V.int j)) = false := by
  rw [h, decide_eq_true rfl]
  rfl
def spWhole : Sp := fun vs H Q _ => ∃ t : Int, vs = [.int t] ∧ Q (.bl true) H
theorem sc_whole : FnScope ["thing"] ["thing"] (defScope s_is_whole) := ⟨rfl, rfl, rfl, by decide +kernel, rfl, by decide +kernel, by decide +kernel⟩
theorem c_whole (T : Txt K mg C) : Cl P w K mg base 1 "is_whole" spWhole := by
  refine T.d_is_whole.mk (ps := ["thing"]) (fun _ _ _ _ _ _ us hl => match us, hl with | [_], _ => rfl) sc_whole (fun vs H Q E h => ?_) fun f cdv A outer s H vs Q E hr h => ?_
  · obtain ⟨t, rfl, _⟩ := h
    rfl
  · obtain ⟨t, rfl, k⟩ := h
    refine ⟨_, pss_one (ps_ret (pe_and (pe_callB call_isi (by rfl) T.b_isinstance (by decide +kernel) (pa_cons (pv 0) (pa_cons (pe_bltn (v := .ty "int") (by rfl) T.b_int (by decide +kernel) rfl) pa_nil)))
      (pe_one (pe_not (pe_callB call_isi (by rfl) T.b_isinstance (by decide +kernel) (pa_cons (pv 0) (pa_cons (pe_bltn (v := .ty "bool") (by rfl) T.b_bool (by decide +kernel) rfl) pa_nil))))))), ?_⟩
    exact ⟨_, rfl, _, _, _, _, true, rfl, .ty _, .base (.int _), kit_ii, true, rfl, iteT ⟨_, rfl, _, _, _, _, false, rfl, .ty _, .base (.int _), kit_ib, false, rfl, k⟩⟩
def spWithin : Sp := fun vs H Q _ => ∃ t lo hi : Int, vs = [.int t, .int lo, .int hi] ∧ lo ≤ t ∧ t ≤ hi ∧ Q (.bl true) H
theorem sc_within : FnScope ["thing", "least", "most"] ["thing", "least", "most"] (defScope s_is_within) := ⟨rfl, rfl, rfl, by decide +kernel, rfl, by decide +kernel, by decide +kernel⟩
theorem c_within (T : Txt K mg C) : Cl P w K mg base 2 "is_within" spWithin := by
  refine T.d_is_within.mk (ps := ["thing", "least", "most"]) (fun _ _ _ _ _ _ us hl => match us, hl with | [_, _, _], _ => rfl) sc_within (fun vs H Q E h => ?_) fun f cdv A outer s H vs Q E hr h => ?_
  · obtain ⟨t, lo, hi, rfl, _⟩ := h
    rfl
  · obtain ⟨t, lo, hi, rfl, h1, h2, k⟩ := h
    refine ⟨_, pss_one (ps_ret (pe_and (pe_f (c_whole T) hr (pa_cons (pv 0) pa_nil)) (pe_one (pe_chain op_le op_le (pv 1) (pv 0) (pv 2))))), ?_⟩
    refine ⟨_, rfl, t, rfl, true, rfl, iteT ⟨_, rfl, _, rfl, _, _, rfl, rfl, _, rfl, ?_⟩⟩
    rw [decide_eq_true h1]
    refine iteT ⟨_, rfl, _, _, rfl, rfl, ?_⟩
    show Q (.bl (decide (t ≤ hi))) H
    rw [decide_eq_true h2]
    exact k
/-! ### places -/
def OptP (K : PySem.W.Frag) (H : Hp) (r : V) : Option (Int × Int) → Prop
  | none => r = .non
  | some p => Dp K H r (encP p)
def placeS (f : Option (Int × Int)) (w : Way) (t : Int) : Option (Int × Int) := if w.1 ≤ t then some (wayAt w t) else f
theorem placeBy_eq (h : House) (t : Int) : placeBy h t = h.foldl (fun f w => placeS f w t) none := rfl
def spPlace (K : PySem.W.Frag) : Sp := fun vs H Q _ => ∃ (v : V) (h : House) (t : Int), vs = [v, .int t] ∧ Dp K H v (encH h) ∧ (∀ w ∈ h, WayOk w) ∧ ∀ H' r, Ex true [] H H' → OptP K H' r (placeBy h t) → Q r H'
theorem sc_place : FnScope ["house", "tick", "found", "begin", "x", "y", "step_x", "step_y"] ["house", "tick"] (defScope s_place_by) := ⟨rfl, rfl, rfl, by decide +kernel, rfl, by decide +kernel, by decide +kernel⟩
theorem c_place (T : Txt K mg C) : Cl P w K mg base 1 "place_by" (spPlace K) := by
  refine T.d_place_by.mk (ps := ["house", "tick"]) (fun _ _ _ _ _ _ us hl => match us, hl with | [_, _], _ => rfl) sc_place (fun vs H Q E h => ?_) fun f cdv A outer s H vs Q E hr h => ?_
  · obtain ⟨v, h, t, rfl, _⟩ := h
    rfl
  · obtain ⟨v, h, t, rfl, hv, hw, k⟩ := h
    obtain ⟨a, xs, rfl, hs, hp⟩ := hv.seq
    have nd := sc_place.nd
    refine ⟨_, pss_cons (ps_set (i := 2) nd rfl (Or.inl rfl) pe_non)
      (pss_cons (ps_for PassesOwn.never rfl (pi_tup (pv 0)) (pg_tup rfl (pgs_cons (pg_name (i := 3) nd rfl (Or.inl rfl)) (pgs_cons (pg_name (i := 4) nd rfl (Or.inl rfl)) (pgs_cons (pg_name (i := 5) nd rfl (Or.inl rfl))
          (pgs_cons (pg_name (i := 6) nd rfl (Or.inl rfl)) (pgs_cons (pg_name (i := 7) nd rfl (Or.inl rfl)) pgs_nil))))))
        (pss_one (ps_if (pt_cmpR op_le (pv 3) (pv 1) (nomark _))
          (pss_one (ps_set (i := 2) nd rfl (Or.inl rfl) (pe_tup (pa_cons (pe_op op_add (pv 4) (pe_op op_mul (pe_op op_sub (pv 1) (pv 3)) (pv 6))) (pa_cons (pe_op op_add (pv 5) (pe_op op_mul (pe_op op_sub (pv 1) (pv 3)) (pv 7))) pa_nil)))))
          pss_nil)))
      (pss_one (ps_ret (pv 2)))), ?_⟩
    refine ⟨_, rfl, a, rfl, ⟨_, hs⟩, for_tup (K := K) (a := a) (xs := xs) (fun i σ H' => ∃ (r : V) (z3 z4 z5 z6 z7 : Option V), σ = [some (.ref a), some (.int t), some r, z3, z4, z5, z6, z7] ∧ Ex true [] H H' ∧ OptP K H' r ((h.take i).foldl (fun f w => placeS f w t) none))
      ⟨.non, none, none, none, none, none, rfl, .refl, rfl⟩ (fun i σ H' _ ⟨_, _, _, _, _, _, _, e, _⟩ => e.sqT hs) ?_ ?_⟩
    · rintro i x σ H1 hi ⟨r, z3, z4, z5, z6, z7, rfl, e1, hr1⟩
      obtain ⟨wy, hwy, hd⟩ := hp.at_ hi
      obtain ⟨b, rfl, hb⟩ := Dp.w hd
      have hb1 := e1.sqT hb
      have wok := hw wy (List.mem_of_getElem? hwy)
      have r0 := wok.r0
      have r1 := wok.r1
      have u0 := wok.u0
      have u1 := wok.u1
      have ek : (h.take (i + 1)).foldl (fun f w => placeS f w t) none = placeS ((h.take i).foldl (fun f w => placeS f w t) none) wy t := by
        rw [List.take_add_one, hwy, List.foldl_append]
        rfl
      refine ⟨b, _, rfl, hb1, rfl, _, _, rfl, _, _, rfl, _, _, rfl, _, _, rfl, _, _, rfl, rfl, ?_⟩
      walk_at "q"
      refine ite2 (fun hc => ?_) (fun hc => ?_)
      · walk_at "q"
        refine ⟨(by show 2 ≤ sizeLine; decide), fun p np => ?_⟩
        refine ⟨.ref p, some (.int wy.1), some (.int wy.2.1), some (.int wy.2.2.1), some (.int wy.2.2.2.1), some (.int wy.2.2.2.2), rfl, e1.new np, ?_⟩
        rw [ek]
        unfold placeS
        rw [if_pos (of_decide_eq_true hc)]
        exact Dp.ofP (.of upd_same)
      · refine ⟨r, some (.int wy.1), some (.int wy.2.1), some (.int wy.2.2.1), some (.int wy.2.2.2.1), some (.int wy.2.2.2.2), rfl, e1, ?_⟩
        rw [ek]
        unfold placeS
        rw [if_neg (fun z => hc (decide_eq_true z))]
        exact hr1
    · rintro σ H1 ⟨r, z3, z4, z5, z6, z7, rfl, e1, hr1⟩
      refine ⟨_, rfl, k H1 r e1 ?_⟩
      rw [placeBy_eq]
      rw [hp.length, List.take_length] at hr1
      exact hr1
end Fb
namespace Fb
open PySem PySem.Spec PyProof.Rows L2
variable {P : Program} {w : World} {K : PySem.W.Frag} {mg : Str → Option Value} {base : Heap} {C : Addr}
/-! ### slips -/
def spFar (K : PySem.W.Frag) : Sp := fun vs H Q _ => ∃ (a b : Addr) (x y u v : Int) (r1 r2 : List V), vs = [.ref a, .ref b] ∧ SqT K H a (.int x :: .int y :: r1) ∧ SqT K H b (.int u :: .int v :: r2) ∧ Q (.int (farI x y u v)) H
theorem at0 {α : Type} {x : α} {r : List α} : atI (x :: r) 0 = some x := atI_nat (j := 0) rfl
theorem at1 {α : Type} {x y : α} {r : List α} : atI (x :: y :: r) 1 = some y := atI_nat (j := 1) rfl
theorem at2 {α : Type} {x y z : α} {r : List α} : atI (x :: y :: z :: r) 2 = some z := atI_nat (j := 2) rfl
theorem at3 {α : Type} {x y z u : α} {r : List α} : atI (x :: y :: z :: u :: r) 3 = some u := atI_nat (j := 3) rfl
theorem at4 {α : Type} {x y z u v : α} {r : List α} : atI (x :: y :: z :: u :: v :: r) 4 = some v := atI_nat (j := 4) rfl
theorem sc_far : FnScope ["one", "other"] ["one", "other"] (defScope s_far) := ⟨rfl, rfl, rfl, by decide +kernel, rfl, by decide +kernel, by decide +kernel⟩
theorem c_far (T : Txt K mg C) : Cl P w K mg base 1 "far" (spFar K) := by
  refine T.d_far.mk (ps := ["one", "other"]) (fun _ _ _ _ _ _ us hl => match us, hl with | [_, _], _ => rfl) sc_far (fun vs H Q E h => ?_) fun f cdv A outer s H vs Q E hr h => ?_
  · obtain ⟨a, b, x, y, u, v, r1, r2, rfl, _⟩ := h
    rfl
  · obtain ⟨a, b, x, y, u, v, r1, r2, rfl, h1, h2, k⟩ := h
    refine ⟨_, pss_one (ps_ret (pe_callB (call_max2 rfl) (by rfl) T.b_max (by decide +kernel) (pa_cons
      (pe_callB call_abs (by rfl) T.b_abs (by decide +kernel) (pa_cons (pe_op op_sub (pe_ix ix_tup (pv 0) pe_int (fun _ _ => rfl)) (pe_ix ix_tup (pv 1) pe_int (fun _ _ => rfl))) pa_nil)) (pa_cons
      (pe_callB call_abs (by rfl) T.b_abs (by decide +kernel) (pa_cons (pe_op op_sub (pe_ix ix_tup (pv 0) pe_int (fun _ _ => rfl)) (pe_ix ix_tup (pv 1) pe_int (fun _ _ => rfl))) pa_nil)) pa_nil)))), ?_⟩
    refine ⟨_, rfl, a, _, _, _, rfl, rfl, h1, at0, _, rfl, b, _, _, _, rfl, rfl, h2, at0, _, _, rfl, rfl, _, rfl, _, rfl, a, _, _, _, rfl, rfl, h1, at1, _, rfl, b, _, _, _, rfl, rfl, h2, at1, _, _, rfl, rfl, _, rfl, _, _, rfl, k⟩
def spDue (K : PySem.W.Frag) : Sp := fun vs H Q _ => ∃ (nv sv : V) (n : Net) (s : Stand) (g : Sign), vs = [nv, sv, .int g.1, .int g.2.1] ∧ Dp K H nv (encN n) ∧ Dp K H sv (encS s) ∧ NetOk n ∧ SignOk n g ∧ ∀ H', Ex true [] H H' → Q (.int (dueAt n s g)) H'
theorem sc_due : FnScope ["net", "stand", "house", "tick"] ["net", "stand", "house", "tick"] (defScope s_due_at) := ⟨rfl, rfl, rfl, by decide +kernel, rfl, by decide +kernel, by decide +kernel⟩
theorem houses_at {K : PySem.W.Frag} {H : Hp} {n : Net} {g : Sign} {hs : List V} (hg : SignOk n g) (hp : Paired (fun v x => Dp K H v (encH x)) hs n.houses) : ∃ hv, atI hs g.1 = some hv ∧ Dp K H hv (encH (n.houses.getD g.1.toNat [])) ∧ n.houses.getD g.1.toNat [] ∈ n.houses := by
  have h0 := hg.i0
  have h1 := hg.i1
  have hl : g.1.toNat < n.houses.length := by omega
  obtain ⟨hv, e1, d⟩ := hp.to (List.getElem?_eq_getElem hl)
  refine ⟨hv, atI_of h0 e1, ?_, ?_⟩
  · rw [List.getD_eq_getElem?_getD, List.getElem?_eq_getElem hl]
    exact d
  · rw [List.getD_eq_getElem?_getD, List.getElem?_eq_getElem hl]
    exact List.getElem_mem hl
theorem c_due (T : Txt K mg C) : Cl P w K mg base 2 "due_at" (spDue K) := by
  refine T.d_due_at.mk (ps := ["net", "stand", "house", "tick"]) (fun _ _ _ _ _ _ us hl => match us, hl with | [_, _, _, _], _ => rfl) sc_due (fun vs H Q E h => ?_) fun f cdv A outer s H vs Q E hr h => ?_
  · obtain ⟨nv, sv, n, s, g, rfl, _⟩ := h
    rfl
  · obtain ⟨nv, sv, n, st, g, rfl, hn, hs, nok, gok, k⟩ := h
    obtain ⟨a, b, hl, rfl, ha, hb, hp⟩ := hn.n
    obtain ⟨c, rfl, hc⟩ := hs.s
    obtain ⟨hv, e1, dh, mem⟩ := houses_at gok hp
    obtain ⟨p, hpl⟩ := gok.at_
    refine ⟨_, pss_one (ps_ret (pe_op op_add (pe_op op_add (pv 3) (pe_f (c_far T) hr (pa_cons (pe_f (c_place T) hr (pa_cons (pe_ix ix_tup (pe_ix ix_tup (pv 0) pe_int (fun _ _ => rfl)) (pv 2) (fun _ _ => rfl)) (pa_cons (pv 3) pa_nil)))
      (pa_cons (pe_slice sl_tup (pv 1) po_none (po_some pe_int)) pa_nil)))) (pe_ix ix_tup (pv 1) pe_int (fun _ _ => rfl)))), ?_⟩
    refine ⟨_, rfl, _, rfl, a, _, _, _, rfl, rfl, ha, at4, _, rfl, b, _, _, _, rfl, rfl, hb, e1, _, rfl, hv, _, g.2.1, rfl, dh, (nok.houses _ mem).ways, fun H1 r x1 o1 => ?_⟩
    rw [hpl] at o1
    obtain ⟨q, rfl, hq⟩ := Dp.p o1
    refine ⟨_, rfl, 2, rfl, c, _, rfl, x1.sqT hc, (fun z => absurd (show (2 : Nat) = 3 from z.2) (by decide)), fun p' np => ?_⟩
    have x2 : Ex true [] H (upd H1 p' (.tup [.int st.1, .int st.2.1])) := x1.new np
    refine ⟨q, p', p.1, p.2, st.1, st.2.1, [], [], rfl, (Ex.one np).sqT hq, .of upd_same, ?_⟩
    refine ⟨_, _, rfl, rfl, _, rfl, c, _, _, _, rfl, rfl, x2.sqT hc, at2, _, _, rfl, rfl, ?_⟩
    have e : dueAt n st g = g.2.1 + farI p.1 p.2 st.1 st.2.1 + st.2.2 := by
      unfold dueAt
      rw [hpl]
    have kk := k _ x2
    rw [e] at kk
    exact kk
def spSlip (K : PySem.W.Frag) : Sp := fun vs H Q _ => ∃ (nv sv gv : V) (n : Net) (s : Stand) (g : Sign), vs = [nv, sv, gv] ∧ Dp K H nv (encN n) ∧ Dp K H sv (encS s) ∧ Dp K H gv (encS g) ∧ NetOk n ∧ SignOk n g ∧ ∀ H', Ex true [] H H' → Q (.int (g.2.2 - dueAt n s g)) H'
theorem sc_slip : FnScope ["net", "stand", "sign"] ["net", "stand", "sign"] (defScope s_slip_by) := ⟨rfl, rfl, rfl, by decide +kernel, rfl, by decide +kernel, by decide +kernel⟩
theorem c_slip (T : Txt K mg C) : Cl P w K mg base 3 "slip_by" (spSlip K) := by
  refine T.d_slip_by.mk (ps := ["net", "stand", "sign"]) (fun _ _ _ _ _ _ us hl => match us, hl with | [_, _, _], _ => rfl) sc_slip (fun vs H Q E h => ?_) fun f cdv A outer s H vs Q E hr h => ?_
  · obtain ⟨nv, sv, gv, n, s, g, rfl, _⟩ := h
    rfl
  · obtain ⟨nv, sv, gv, n, st, g, rfl, hn, hs, hg, nok, gok, k⟩ := h
    obtain ⟨c, rfl, hc⟩ := hg.s
    refine ⟨_, pss_one (ps_ret (pe_op op_sub (pe_ix ix_tup (pv 2) pe_int (fun _ _ => rfl)) (pe_f (c_due T) hr (pa_cons (pv 0) (pa_cons (pv 1) (pa_cons (pe_ix ix_tup (pv 2) pe_int (fun _ _ => rfl)) (pa_cons (pe_ix ix_tup (pv 2) pe_int (fun _ _ => rfl)) pa_nil))))))), ?_⟩
    refine ⟨_, rfl, c, _, _, _, rfl, rfl, hc, at2, _, rfl, _, rfl, _, rfl, c, _, _, _, rfl, rfl, hc, at0, _, rfl, c, _, _, _, rfl, rfl, hc, at1, nv, sv, n, st, g, rfl, hn, hs, nok, gok, fun H1 x1 => ?_⟩
    exact ⟨_, _, rfl, rfl, k H1 x1⟩
def spFits (K : PySem.W.Frag) : Sp := fun vs H Q _ => ∃ (nv sv gv : V) (n : Net) (s : Stand) (g : Sign), vs = [nv, sv, gv] ∧ Dp K H nv (encN n) ∧ Dp K H sv (encS s) ∧ Dp K H gv (encS g) ∧ NetOk n ∧ SignOk n g ∧ ∀ H', Ex true [] H H' → Q (.bl (fitsB n s g)) H'
theorem sc_fitsBy : FnScope ["net", "stand", "sign"] ["net", "stand", "sign"] (defScope s_fits_by) := ⟨rfl, rfl, rfl, by decide +kernel, rfl, by decide +kernel, by decide +kernel⟩
theorem c_fitsBy (T : Txt K mg C) : Cl P w K mg base 4 "fits_by" (spFits K) := by
  refine T.d_fits_by.mk (ps := ["net", "stand", "sign"]) (fun _ _ _ _ _ _ us hl => match us, hl with | [_, _, _], _ => rfl) sc_fitsBy (fun vs H Q E h => ?_) fun f cdv A outer s H vs Q E hr h => ?_
  · obtain ⟨nv, sv, gv, n, s, g, rfl, _⟩ := h
    rfl
  · obtain ⟨nv, sv, gv, n, st, g, rfl, hn, hs, hg, nok, gok, k⟩ := h
    obtain ⟨a, b, hl, e, ha, hb, hp⟩ := id hn.n
    refine ⟨_, pss_one (ps_ret (pe_chain op_le op_le (pe_un un_neg (pe_ix ix_tup (pv 0) pe_int (fun _ _ => rfl))) (pe_f (c_slip T) hr (pa_cons (pv 0) (pa_cons (pv 1) (pa_cons (pv 2) pa_nil)))) (pe_ix ix_tup (pv 0) pe_int (fun _ _ => rfl)))), ?_⟩
    refine ⟨_, rfl, a, _, _, _, e, rfl, ha, at3, _, rfl, _, rfl, _, rfl, _, rfl, nv, sv, gv, n, st, g, rfl, hn, hs, hg, nok, gok, fun H1 x1 => ?_⟩
    refine ⟨_, _, rfl, rfl, _, rfl, ?_⟩
    have kk := k H1 x1
    unfold fitsB at kk
    refine ite2 (fun hc => ?_) (fun hc => ?_)
    · rw [show decide (-n.slip ≤ g.2.2 - dueAt n st g) = true from hc] at kk
      exact ⟨_, rfl, a, _, _, _, e, rfl, x1.sqT ha, at3, _, _, rfl, rfl, kk⟩
    · rw [show decide (-n.slip ≤ g.2.2 - dueAt n st g) = false from Bool.not_eq_true _ ▸ hc] at kk
      exact kk
/-! ### places, stands, signs that are right -/
def spIsPlace (K : PySem.W.Frag) : Sp := fun vs H Q _ => ∃ (nv : V) (a : Addr) (n : Net) (x y : Int), vs = [nv, .ref a] ∧ Dp K H nv (encN n) ∧ SqT K H a [.int x, .int y] ∧ (0 ≤ x ∧ x < n.wide) ∧ (0 ≤ y ∧ y < n.high) ∧ Q (.bl true) H
theorem sc_isPlace : FnScope ["net", "thing"] ["net", "thing"] (defScope s_is_place) := ⟨rfl, rfl, rfl, by decide +kernel, rfl, by decide +kernel, by decide +kernel⟩
theorem c_isPlace (T : Txt K mg C) : Cl P w K mg base 3 "is_place" (spIsPlace K) := by
  refine T.d_is_place.mk (ps := ["net", "thing"]) (fun _ _ _ _ _ _ us hl => match us, hl with | [_, _], _ => rfl) sc_isPlace (fun vs H Q E h => ?_) fun f cdv A outer s H vs Q E hr h => ?_
  · obtain ⟨nv, a, n, x, y, rfl, _⟩ := h
    rfl
  · obtain ⟨nv, a, n, x, y, rfl, hn, ha, hx, hy, k⟩ := h
    obtain ⟨b, _, _, rfl, hb, _, _⟩ := hn.n
    refine ⟨_, pss_cons (ps_if (PW.pt (pw_or (pt_not (pt_val (pe_callB call_isi (by rfl) T.b_isinstance (by decide +kernel) (pa_cons (pv 1) (pa_cons (pe_bltn (v := .ty "tuple") (by rfl) T.b_tuple (by decide +kernel) rfl) pa_nil)))))
        (pw_or1 (pt_cmpR op_ne (pe_callB call_len_seq (by rfl) T.b_len PySem.boot_len (pa_cons (pv 1) pa_nil)) pe_int (nomark _))))) (pss_one (ps_ret pe_bl)) pss_nil)
      (pss_one (ps_ret (pe_and (pe_f (c_within T) hr (pa_cons (pe_ix ix_tup (pv 1) pe_int (fun _ _ => rfl)) (pa_cons pe_int (pa_cons (pe_op op_sub (pe_ix ix_tup (pv 0) pe_int (fun _ _ => rfl)) pe_int) pa_nil))))
        (pe_one (pe_f (c_within T) hr (pa_cons (pe_ix ix_tup (pv 1) pe_int (fun _ _ => rfl)) (pa_cons pe_int (pa_cons (pe_op op_sub (pe_ix ix_tup (pv 0) pe_int (fun _ _ => rfl)) pe_int) pa_nil)))))))), ?_⟩
    refine ⟨_, rfl, _, _, _, _, true, rfl, .ty _, tyT ha, kit_tt, true, rfl, iteF ?_⟩
    refine ⟨_, rfl, a, _, rfl, .inr ha, rfl, _, rfl, iteF ?_⟩
    refine ⟨_, rfl, a, _, _, _, rfl, rfl, ha, at0, _, rfl, b, _, _, _, rfl, rfl, hb, at0, _, _, rfl, rfl, x, 0, n.wide - 1, rfl, by omega, by omega, true, rfl, iteT ?_⟩
    exact ⟨_, rfl, a, _, _, _, rfl, rfl, ha, at1, _, rfl, b, _, _, _, rfl, rfl, hb, at1, _, _, rfl, rfl, y, 0, n.high - 1, rfl, by omega, by omega, k⟩
end Fb
namespace Fb
open PySem PySem.Spec PyProof.Rows L2
variable {P : Program} {w : World} {K : PySem.W.Frag} {mg : Str → Option Value} {base : Heap} {C : Addr}
def spIsStand (K : PySem.W.Frag) : Sp := fun vs H Q _ => ∃ (nv sv : V) (n : Net) (s : Stand), vs = [nv, sv] ∧ Dp K H nv (encN n) ∧ Dp K H sv (encS s) ∧ inNet n s ∧ ∀ H', Ex true [] H H' → Q (.bl true) H'
theorem sc_isStand : FnScope ["net", "thing"] ["net", "thing"] (defScope s_is_stand_by) := ⟨rfl, rfl, rfl, by decide +kernel, rfl, by decide +kernel, by decide +kernel⟩
theorem c_isStand (T : Txt K mg C) : Cl P w K mg base 4 "is_stand_by" (spIsStand K) := by
  refine T.d_is_stand_by.mk (ps := ["net", "thing"]) (fun _ _ _ _ _ _ us hl => match us, hl with | [_, _], _ => rfl) sc_isStand (fun vs H Q E h => ?_) fun f cdv A outer s H vs Q E hr h => ?_
  · obtain ⟨nv, a, n, s, rfl, _⟩ := h
    rfl
  · obtain ⟨nv, sv, n, st, rfl, hn, hs, hi, k⟩ := h
    obtain ⟨b, _, _, rfl, hb, _, _⟩ := id hn.n
    obtain ⟨a, rfl, ha⟩ := hs.s
    obtain ⟨h1, h2, h3⟩ := hi
    refine ⟨_, pss_cons (ps_if (PW.pt (pw_or (pt_not (pt_val (pe_callB call_isi (by rfl) T.b_isinstance (by decide +kernel) (pa_cons (pv 1) (pa_cons (pe_bltn (v := .ty "tuple") (by rfl) T.b_tuple (by decide +kernel) rfl) pa_nil)))))
        (pw_or1 (pt_cmpR op_ne (pe_callB call_len_seq (by rfl) T.b_len PySem.boot_len (pa_cons (pv 1) pa_nil)) pe_int (nomark _))))) (pss_one (ps_ret pe_bl)) pss_nil)
      (pss_one (ps_ret (pe_and (pe_f (c_isPlace T) hr (pa_cons (pv 0) (pa_cons (pe_slice sl_tup (pv 1) po_none (po_some pe_int)) pa_nil)))
        (pe_one (pe_f (c_within T) hr (pa_cons (pe_ix ix_tup (pv 1) pe_int (fun _ _ => rfl)) (pa_cons (pe_un un_neg (pe_ix ix_tup (pv 0) pe_int (fun _ _ => rfl))) (pa_cons (pe_ix ix_tup (pv 0) pe_int (fun _ _ => rfl)) pa_nil)))))))), ?_⟩
    refine ⟨_, rfl, _, _, _, _, true, rfl, .ty _, tyT ha, kit_tt, true, rfl, iteF ?_⟩
    refine ⟨_, rfl, a, _, rfl, .inr ha, rfl, _, rfl, iteF ?_⟩
    refine ⟨_, rfl, _, rfl, 2, rfl, a, _, rfl, ha, (fun z => absurd (show (2 : Nat) = 3 from z.2) (by decide)), fun p np => ?_⟩
    have x2 : Ex true [] H (upd H p (.tup [.int st.1, .int st.2.1])) := .one np
    refine ⟨_, p, n, st.1, st.2.1, rfl, x2.net hn, .of upd_same, h1, h2, true, rfl, iteT ?_⟩
    exact ⟨_, rfl, a, _, _, _, rfl, rfl, x2.sqT ha, at2, _, rfl, b, _, _, _, rfl, rfl, x2.sqT hb, at2, _, rfl, _, rfl, b, _, _, _, rfl, rfl, x2.sqT hb, at2, _, _, _, rfl, by omega, by omega, k _ x2⟩
theorem sc_needStand : FnScope ["net", "thing"] ["net", "thing"] (defScope s_need_stand) := ⟨rfl, rfl, rfl, by decide +kernel, rfl, by decide +kernel, by decide +kernel⟩
def spNeedStand (K : PySem.W.Frag) : Sp := fun vs H Q _ => ∃ (nv sv : V) (n : Net) (s : Stand), vs = [nv, sv] ∧ Dp K H nv (encN n) ∧ Dp K H sv (encS s) ∧ inNet n s ∧ ∀ H', Ex true [] H H' → Q .non H'
theorem c_needStand (T : Txt K mg C) : Cl P w K mg base 5 "need_stand" (spNeedStand K) := by
  refine T.d_need_stand.mk (ps := ["net", "thing"]) (fun _ _ _ _ _ _ us hl => match us, hl with | [_, _], _ => rfl) sc_needStand (fun vs H Q E h => ?_) fun f cdv A outer s H vs Q E hr h => ?_
  · obtain ⟨nv, a, n, s, rfl, _⟩ := h
    rfl
  · obtain ⟨nv, sv, n, st, rfl, hn, hs, hi, k⟩ := h
    refine ⟨_, pss_one (ps_if (pt_not (pt_val (pe_f (c_isStand T) hr (pa_cons (pv 0) (pa_cons (pv 1) pa_nil))))) (pss_one ps_never) pss_nil), ?_⟩
    exact ⟨_, rfl, _, rfl, nv, sv, n, st, rfl, hn, hs, hi, fun H1 x1 => ⟨true, rfl, iteF (k H1 x1)⟩⟩
def spIsSign (K : PySem.W.Frag) : Sp := fun vs H Q _ => ∃ (nv gv : V) (n : Net) (g : Sign), vs = [nv, gv] ∧ Dp K H nv (encN n) ∧ Dp K H gv (encS g) ∧ NetOk n ∧ SignOk n g ∧ ∀ H', Ex true [] H H' → Q (.bl true) H'
theorem sc_isSign : FnScope ["net", "thing"] ["net", "thing"] (defScope s_is_sign_by) := ⟨rfl, rfl, rfl, by decide +kernel, rfl, by decide +kernel, by decide +kernel⟩
theorem c_isSign (T : Txt K mg C) : Cl P w K mg base 3 "is_sign_by" (spIsSign K) := by
  refine T.d_is_sign_by.mk (ps := ["net", "thing"]) (fun _ _ _ _ _ _ us hl => match us, hl with | [_, _], _ => rfl) sc_isSign (fun vs H Q E h => ?_) fun f cdv A outer s H vs Q E hr h => ?_
  · obtain ⟨nv, a, n, s, rfl, _⟩ := h
    rfl
  · obtain ⟨nv, gv, n, g, rfl, hn, hg, nok, gok, k⟩ := h
    obtain ⟨b, c, hl, rfl, hb, hc, hp⟩ := id hn.n
    obtain ⟨a, rfl, ha⟩ := hg.s
    obtain ⟨hv, e1, dh, mem⟩ := houses_at gok hp
    obtain ⟨p, hpl⟩ := gok.at_
    have i0 := gok.i0
    have i1 := gok.i1
    have t0 := gok.t0
    have t1' := gok.t1
    have h0 := gok.h0
    have h1 := gok.h1
    have hlen := hp.length
    refine ⟨_, pss_cons (ps_if (PW.pt (pw_or (pt_not (pt_val (pe_callB call_isi (by rfl) T.b_isinstance (by decide +kernel) (pa_cons (pv 1) (pa_cons (pe_bltn (v := .ty "tuple") (by rfl) T.b_tuple (by decide +kernel) rfl) pa_nil)))))
        (pw_or1 (pt_cmpR op_ne (pe_callB call_len_seq (by rfl) T.b_len PySem.boot_len (pa_cons (pv 1) pa_nil)) pe_int (nomark _))))) (pss_one (ps_ret pe_bl)) pss_nil)
      (pss_cons (ps_if (PW.pt (pw_or (pt_not (pt_val (pe_f (c_within T) hr (pa_cons (pe_ix ix_tup (pv 1) pe_int (fun _ _ => rfl)) (pa_cons pe_int (pa_cons (pe_op op_sub (pe_callB call_len_seq (by rfl) T.b_len PySem.boot_len (pa_cons (pe_ix ix_tup (pv 0) pe_int (fun _ _ => rfl)) pa_nil)) pe_int) pa_nil))))))
        (pw_or1 (pt_not (pt_val (pe_f (c_within T) hr (pa_cons (pe_ix ix_tup (pv 1) pe_int (fun _ _ => rfl)) (pa_cons pe_int (pa_cons (pe_gi T.c_MOST_TICK) pa_nil))))))))) (pss_one (ps_ret pe_bl)) pss_nil)
      (pss_one (ps_ret (pe_and (pe_f (c_within T) hr (pa_cons (pe_ix ix_tup (pv 1) pe_int (fun _ _ => rfl)) (pa_cons (pe_un un_neg (pe_gi T.c_MOST_HEARD)) (pa_cons (pe_gi T.c_MOST_HEARD) pa_nil))))
        (pe_one (pe_cmpR op_notN (pe_f (c_place T) hr (pa_cons (pe_ix ix_tup (pe_ix ix_tup (pv 0) pe_int (fun _ _ => rfl)) (pe_ix ix_tup (pv 1) pe_int (fun _ _ => rfl)) (fun _ _ => rfl)) (pa_cons (pe_ix ix_tup (pv 1) pe_int (fun _ _ => rfl)) pa_nil))) pe_non (nomark _))))))), ?_⟩
    refine ⟨_, rfl, _, _, _, _, true, rfl, .ty _, tyT ha, kit_tt, true, rfl, iteF ?_⟩
    refine ⟨_, rfl, a, _, rfl, .inr ha, rfl, _, rfl, iteF ?_⟩
    refine ⟨_, rfl, a, _, _, _, rfl, rfl, ha, at0, _, rfl, b, _, _, _, rfl, rfl, hb, at4, c, _, rfl, .inr hc, _, _, rfl, rfl, g.1, 0, (hl.length : Int) - 1, rfl, by omega, by omega, true, rfl, iteF ?_⟩
    refine ⟨_, rfl, a, _, _, _, rfl, rfl, ha, at1, g.2.1, 0, 300, rfl, by omega, by omega, true, rfl, iteF ?_⟩
    refine ⟨_, rfl, a, _, _, _, rfl, rfl, ha, at2, _, rfl, _, _, _, rfl, by omega, by omega, true, rfl, iteT ?_⟩
    refine ⟨_, rfl, b, _, _, _, rfl, rfl, hb, at4, _, rfl, a, _, _, _, rfl, rfl, ha, at0, c, _, _, _, rfl, rfl, hc, e1, _, rfl, a, _, _, _, rfl, rfl, ha, at1, hv, _, g.2.1, rfl, dh, (nok.houses _ mem).ways, fun H1 r x1 o1 => ⟨rfl, ?_⟩⟩
    rw [hpl] at o1
    obtain ⟨q, rfl, hq⟩ := Dp.p o1
    exact k H1 x1
theorem sc_needSign : FnScope ["net", "thing"] ["net", "thing"] (defScope s_need_sign) := ⟨rfl, rfl, rfl, by decide +kernel, rfl, by decide +kernel, by decide +kernel⟩
def spNeedSign (K : PySem.W.Frag) : Sp := fun vs H Q _ => ∃ (nv gv : V) (n : Net) (g : Sign), vs = [nv, gv] ∧ Dp K H nv (encN n) ∧ Dp K H gv (encS g) ∧ NetOk n ∧ SignOk n g ∧ ∀ H', Ex true [] H H' → Q .non H'
theorem c_needSign (T : Txt K mg C) : Cl P w K mg base 4 "need_sign" (spNeedSign K) := by
  refine T.d_need_sign.mk (ps := ["net", "thing"]) (fun _ _ _ _ _ _ us hl => match us, hl with | [_, _], _ => rfl) sc_needSign (fun vs H Q E h => ?_) fun f cdv A outer s H vs Q E hr h => ?_
  · obtain ⟨nv, a, n, s, rfl, _⟩ := h
    rfl
  · obtain ⟨nv, gv, n, g, rfl, hn, hg, nok, gok, k⟩ := h
    refine ⟨_, pss_one (ps_if (pt_not (pt_val (pe_f (c_isSign T) hr (pa_cons (pv 0) (pa_cons (pv 1) pa_nil))))) (pss_one ps_never) pss_nil), ?_⟩
    exact ⟨_, rfl, _, rfl, nv, gv, n, g, rfl, hn, hg, nok, gok, fun H1 x1 => ⟨true, rfl, iteF (k H1 x1)⟩⟩
def spIsRule (K : PySem.W.Frag) : Sp := fun vs H Q _ => ∃ (rv : V) (r : Rule), vs = [rv] ∧ Dp K H rv (encR r) ∧ RuleOk r ∧ Q (.bl true) H
theorem sc_isRule : FnScope ["thing"] ["thing"] (defScope s_is_rule) := ⟨rfl, rfl, rfl, by decide +kernel, rfl, by decide +kernel, by decide +kernel⟩
theorem c_isRule (T : Txt K mg C) : Cl P w K mg base 3 "is_rule" (spIsRule K) := by
  refine T.d_is_rule.mk (ps := ["thing"]) (fun _ _ _ _ _ _ us hl => match us, hl with | [_], _ => rfl) sc_isRule (fun vs H Q E h => ?_) fun f cdv A outer s H vs Q E hr h => ?_
  · obtain ⟨rv, r, rfl, _⟩ := h
    rfl
  · obtain ⟨rv, r, rfl, hv, ok, k⟩ := h
    obtain ⟨a, rfl, ha⟩ := hv.r
    have f0 := ok.f0
    have f1 := ok.f1
    have d0 := ok.d0
    have d1 := ok.d1
    refine ⟨_, pss_cons (ps_if (PW.pt (pw_or (pt_not (pt_val (pe_callB call_isi (by rfl) T.b_isinstance (by decide +kernel) (pa_cons (pv 0) (pa_cons (pe_bltn (v := .ty "tuple") (by rfl) T.b_tuple (by decide +kernel) rfl) pa_nil)))))
        (pw_or1 (pt_cmpR op_ne (pe_callB call_len_seq (by rfl) T.b_len PySem.boot_len (pa_cons (pv 0) pa_nil)) pe_int (nomark _))))) (pss_one (ps_ret pe_bl)) pss_nil)
      (pss_one (ps_ret (pe_and (pe_f (c_within T) hr (pa_cons (pe_ix ix_tup (pv 0) pe_int (fun _ _ => rfl)) (pa_cons pe_int (pa_cons (pe_gi T.c_MOST_FAR) pa_nil))))
        (pe_one (pe_f (c_within T) hr (pa_cons (pe_ix ix_tup (pv 0) pe_int (fun _ _ => rfl)) (pa_cons pe_int (pa_cons (pe_gi T.c_MOST_DRIFT) pa_nil)))))))), ?_⟩
    refine ⟨_, rfl, _, _, _, _, true, rfl, .ty _, tyT ha, kit_tt, true, rfl, iteF ?_⟩
    refine ⟨_, rfl, a, _, rfl, .inr ha, rfl, _, rfl, iteF ?_⟩
    refine ⟨_, rfl, a, _, _, _, rfl, rfl, ha, at0, r.1, 0, 3, rfl, by omega, by omega, true, rfl, iteT ?_⟩
    exact ⟨_, rfl, a, _, _, _, rfl, rfl, ha, at1, r.2, 0, 2, rfl, by omega, by omega, k⟩
def spNeedRule (K : PySem.W.Frag) : Sp := fun vs H Q _ => ∃ (rv : V) (r : Rule), vs = [rv] ∧ Dp K H rv (encR r) ∧ RuleOk r ∧ Q .non H
theorem sc_needRule : FnScope ["thing"] ["thing"] (defScope s_need_rule) := ⟨rfl, rfl, rfl, by decide +kernel, rfl, by decide +kernel, by decide +kernel⟩
theorem c_needRule (T : Txt K mg C) : Cl P w K mg base 4 "need_rule" (spNeedRule K) := by
  refine T.d_need_rule.mk (ps := ["thing"]) (fun _ _ _ _ _ _ us hl => match us, hl with | [_], _ => rfl) sc_needRule (fun vs H Q E h => ?_) fun f cdv A outer s H vs Q E hr h => ?_
  · obtain ⟨rv, r, rfl, _⟩ := h
    rfl
  · obtain ⟨rv, r, rfl, hv, ok, k⟩ := h
    refine ⟨_, pss_one (ps_if (pt_not (pt_val (pe_f (c_isRule T) hr (pa_cons (pv 0) pa_nil)))) (pss_one ps_never) pss_nil), ?_⟩
    exact ⟨_, rfl, rv, r, rfl, hv, ok, true, rfl, iteF k⟩
end Fb
namespace Fb
open PySem PySem.Spec PyProof.Rows L2
variable {P : Program} {w : World} {K : PySem.W.Frag} {mg : Str → Option Value} {base : Heap} {C : Addr}
theorem cut_from {xs : List V} (k : Nat) : cutV xs (some (k : Int)) none = xs.drop k := by
  unfold cutV
  rw [HT.sIx_nat, HT.sIx_none]
  by_cases h : k ≤ xs.length
  · rw [Nat.min_eq_left h, List.take_of_length_le (by rw [List.length_drop]; omega)]
  · rw [Nat.min_eq_right (by omega), List.drop_length, List.drop_eq_nil_of_le (by omega)]
    simp
theorem reps (n : Nat) (v : V) : List.replicate n v ++ [v] = List.replicate (n + 1) v := by
  rw [List.replicate_succ']
theorem allTrue (n : Nat) : (List.replicate n true).all id = true := by simp
theorem mapTrue (n : Nat) : (List.replicate n true).map V.bl = List.replicate n (V.bl true) := by simp
def spRises : Sp := fun vs H Q _ => ∃ (a : Addr) (ns : List Int), vs = [.ref a] ∧ H a = some (.lst (ns.map V.int)) ∧ ns.Pairwise (· < ·) ∧ ns.length ≤ 1000 ∧ ∀ H', Ex true [] H H' → Q (.bl true) H'
theorem sc_rises : FnScope ["row", "one", "later"] ["row"] (defScope s_rises) := ⟨rfl, rfl, rfl, by decide +kernel, rfl, by decide +kernel, by decide +kernel⟩
theorem c_rises (T : Txt K mg C) : Cl P w K mg base 1 "rises" spRises := by
  refine T.d_rises.mk (ps := ["row"]) (fun _ _ _ _ _ _ us hl => match us, hl with | [_], _ => rfl) sc_rises (fun vs H Q E h => ?_) fun f cdv A outer s H vs Q E hr h => ?_
  · obtain ⟨a, ns, rfl, _⟩ := h
    rfl
  · obtain ⟨a, ns, rfl, ha, hp, hl, k⟩ := h
    have nd := sc_rises.nd
    refine ⟨_, pss_one (ps_ret (pe_callB (cr_all rfl) (by rfl) T.b_all (by decide +kernel) (pa_cons
      (pe_lc (own := [("one", 1), ("later", 2)]) (g := gTup K 2 (gCons (gName 1) (gCons (gName 2) gNil))) (tt := tYes) rfl nd
        (pi_zip (by rfl) T.b_zip (pa_cons (pv 0) (pa_cons (pe_slice sl_list (pv 0) (po_some pe_int) po_none) pa_nil)))
        (blkOk_by (N := ["row", "one", "later"]) (sc := defScope s_rises) (by decide +kernel))
        (fun _ _ _ _ _ => pg_tup rfl (pgs_cons (pg_name (i := 1) nd rfl (Or.inl rfl)) (pgs_cons (pg_name (i := 2) nd rfl (Or.inl rfl)) pgs_nil)))
        (fun _ _ _ _ _ => pts_nil) (fun _ _ _ _ _ => pe_cmpR op_lt (pv 1) (pv 2) (nomark _))) pa_nil))), ?_⟩
    refine ⟨_, rfl, _, rfl, 1, rfl, a, _, rfl, .of ha, fun p np => ?_⟩
    have ec : cutV (ns.map V.int) (some 1) none = (ns.map V.int).drop 1 := cut_from 1
    rw [ec]
    have x1 : Ex true [] H (upd H p (.lst ((ns.map V.int).drop 1))) := .one np
    refine ⟨a, p, _, _, rfl, .of (x1.lst ha (by simp)), .of upd_same, fun D hD => ?_⟩
    have npD : p ≠ D := ne_of_none upd_same hD
    have naD : a ≠ D := ne_of_none (x1.lst ha (by simp)) hD
    refine lc_it (walk_zip rfl) (fun i H' => Ex true [] H H' ∧ H' p = some (.lst ((ns.map V.int).drop 1)) ∧ H' D = some (.lst (List.replicate i (.bl true))))
      ⟨x1.new hD, by rw [upd_ne npD, upd_same], upd_same⟩ (fun i H' _ ⟨e, e1, _⟩ => ⟨.of (e.lst ha (by simp)), .of e1⟩) ?_ ?_
    · rintro i v H1 H2 hi ⟨e, e1, e2⟩ ⟨T', x, y, rfl, nT, rfl, hx, hy⟩
      replace hx : (ns.map V.int)[i]? = some x := hx
      replace hy : ((ns.map V.int).drop 1)[i]? = some y := hy
      rw [List.getElem?_map] at hx
      rw [List.getElem?_drop, List.getElem?_map] at hy
      obtain ⟨n1, h1, rfl⟩ : ∃ n1, ns[i]? = some n1 ∧ V.int n1 = x := by
        cases q : ns[i]? with
        | none => rw [q] at hx; cases hx
        | some z => rw [q] at hx; exact ⟨z, rfl, Option.some.inj hx⟩
      obtain ⟨n2, h2, rfl⟩ : ∃ n2, ns[1 + i]? = some n2 ∧ V.int n2 = y := by
        cases q : ns[1 + i]? with
        | none => rw [q] at hy; cases hy
        | some z => rw [q] at hy; exact ⟨z, rfl, Option.some.inj hy⟩
      have hlt : n1 < n2 := by
        obtain ⟨l1, g1⟩ := List.getElem?_eq_some_iff.mp h1
        obtain ⟨l2, g2⟩ := List.getElem?_eq_some_iff.mp h2
        have := List.pairwise_iff_getElem.mp hp i (1 + i) l1 l2 (by omega)
        rw [g1, g2] at this
        exact this
      have nDT : D ≠ T' := ne_of_none e2 nT
      have npT : p ≠ T' := ne_of_none e1 nT
      refine ⟨T', _, rfl, .of upd_same, rfl, _, _, rfl, _, _, rfl, rfl, rfl, ?_⟩
      refine ⟨_, rfl, _, rfl, _, _, rfl, rfl, List.replicate i (.bl true), by rw [upd_ne nDT]; exact e2, ?_, ?_⟩
      · have : i < 1001 := by
          simp only [List.length_map, List.length_drop] at hi
          omega
        rw [List.length_replicate, sizeLine_eq]
        omega
      · dsimp only
        rw [decide_eq_true hlt, reps]
        refine ⟨(e.new nT).app (.inr (x1.nw hD)) (by rw [upd_ne nDT]; exact e2), by rw [upd_ne npD, upd_ne npT]; exact e1, upd_same⟩
    · rintro H1 ⟨e, e1, e2⟩
      exact ⟨D, List.replicate _ true, rfl, by rw [mapTrue]; exact .of e2, by rw [allTrue]; exact k H1 e⟩
theorem walk_zipT {K : PySem.W.Frag} {a b : Addr} {xs ys : List V} {n : Nat} (hn : n = min xs.length ys.length) : Walk (RZ.ItzT K a b) n (fun H => SqT K H a xs ∧ SqT K H b ys) (YPair (fun i => xs[i]?) (fun i => ys[i]?)) := by
  subst hn
  refine ⟨fun i H hi q => ?_, fun H q => ⟨xs, ys, q.1, q.2, by omega⟩, fun i H v H' hi q y => ?_⟩
  · exact ⟨xs, ys, _, _, q.1, q.2, List.getElem?_eq_getElem (by omega), List.getElem?_eq_getElem (by omega)⟩
  · obtain ⟨T, x, z, g1, g2, g3, g4, g5⟩ := y
    exact ⟨T, x, z, g1, g2, g3, g4 xs q.1, g5 ys q.2⟩
def spIsWay (K : PySem.W.Frag) : Sp := fun vs H Q _ => ∃ (v : V) (u : Way), vs = [v] ∧ Dp K H v (encW u) ∧ WayOk u ∧ ∀ H', Ex true [] H H' → Q (.bl true) H'
theorem sc_isWay : FnScope ["thing", "one", "least", "most"] ["thing"] (defScope s_is_way) := ⟨rfl, rfl, rfl, by decide +kernel, rfl, by decide +kernel, by decide +kernel⟩
theorem c_isWay (T : Txt K mg C) : Cl P w K mg base 3 "is_way" (spIsWay K) := by
  refine T.d_is_way.mk (ps := ["thing"]) (fun _ _ _ _ _ _ us hl => match us, hl with | [_], _ => rfl) sc_isWay (fun vs H Q E h => ?_) fun f cdv A outer s H vs Q E hr h => ?_
  · obtain ⟨v, u, rfl, _⟩ := h
    rfl
  · obtain ⟨v, u, rfl, hv, ok, k⟩ := h
    obtain ⟨a, rfl, ha⟩ := hv.w
    obtain ⟨bA, b0, b1, b2, b3, b4, mB, hB⟩ := T.bounds
    have nd := sc_isWay.nd
    have pick : ∀ (i : Nat) (x y : V), ([.int u.1, .int u.2.1, .int u.2.2.1, .int u.2.2.2.1, .int u.2.2.2.2] : List V)[i]? = some x → ([.ref b0, .ref b1, .ref b2, .ref b3, .ref b4] : List V)[i]? = some y →
        ∃ (z : Int) (b : Addr) (lo hi : Int), x = .int z ∧ y = .ref b ∧ (∀ H : Hp, SqT K H b [.int lo, .int hi]) ∧ lo ≤ z ∧ z ≤ hi := by
      intro i x y hx hy
      match i, hx, hy with
      | 0, hx, hy => cases hx; cases hy; exact ⟨_, _, _, _, rfl, rfl, fun H => (hB H).2.1, ok.b0, ok.b1⟩
      | 1, hx, hy => cases hx; cases hy; exact ⟨_, _, _, _, rfl, rfl, fun H => (hB H).2.2.1, ok.x0, ok.x1⟩
      | 2, hx, hy => cases hx; cases hy; exact ⟨_, _, _, _, rfl, rfl, fun H => (hB H).2.2.2.1, ok.y0, ok.y1⟩
      | 3, hx, hy => cases hx; cases hy; exact ⟨_, _, _, _, rfl, rfl, fun H => (hB H).2.2.2.2.1, ok.r0, ok.r1⟩
      | 4, hx, hy => cases hx; cases hy; exact ⟨_, _, _, _, rfl, rfl, fun H => (hB H).2.2.2.2.2, ok.u0, ok.u1⟩
      | _ + 5, hx, _ => cases hx
    have gB : ∀ {X : Cx} {pos : Pos}, X.mg = mg → Gl X "BOUNDS" → PE X (.Name "BOUNDS" pos) (tC (.ref bA)) := fun e g => pe_glob g (by rw [e]; exact mB) rfl
    refine ⟨_, pss_cons (ps_if (PW.pt (pw_or (pt_not (pt_val (pe_callB call_isi (by rfl) T.b_isinstance (by decide +kernel) (pa_cons (pv 0) (pa_cons (pe_bltn (v := .ty "tuple") (by rfl) T.b_tuple (by decide +kernel) rfl) pa_nil)))))
        (pw_or1 (pt_cmpR op_ne (pe_callB call_len_seq (by rfl) T.b_len PySem.boot_len (pa_cons (pv 0) pa_nil)) (pe_callB call_len_seq (by rfl) T.b_len PySem.boot_len (pa_cons (gB rfl rfl) pa_nil)) (nomark _))))) (pss_one (ps_ret pe_bl)) pss_nil)
      (pss_one (ps_ret (pe_callB (cr_all rfl) (by rfl) T.b_all (by decide +kernel) (pa_cons
      (pe_lc (own := [("one", 1), ("least", 2), ("most", 3)]) (g := gTup K 2 (gCons (gName 1) (gCons (gTup K 2 (gCons (gName 2) (gCons (gName 3) gNil))) gNil))) (tt := tYes) rfl nd
        (RZ.pi_zipA (by rfl) T.b_zip (pa_cons (pv 0) (pa_cons (gB rfl rfl) pa_nil)))
        (blkOk_by (N := ["thing", "one", "least", "most"]) (sc := defScope s_is_way) (by decide +kernel))
        (fun _ _ _ _ _ => pg_tup rfl (pgs_cons (pg_name (i := 1) nd rfl (Or.inl rfl)) (pgs_cons (pg_tup rfl (pgs_cons (pg_name (i := 2) nd rfl (Or.inl rfl)) (pgs_cons (pg_name (i := 3) nd rfl (Or.inl rfl)) pgs_nil))) pgs_nil)))
        (fun _ _ _ _ _ => pts_nil) (fun _ _ _ _ _ => pe_f (c_within T) hr (pa_cons (pv 1) (pa_cons (pv 2) (pa_cons (pv 3) pa_nil))))) pa_nil)))), ?_⟩
    refine ⟨_, rfl, _, _, _, _, true, rfl, .ty _, tyT ha, kit_tt, true, rfl, iteF ?_⟩
    refine ⟨_, rfl, a, _, rfl, .inr ha, bA, _, rfl, .inr (hB _).1, rfl, _, rfl, iteF ?_⟩
    refine ⟨_, rfl, a, bA, _, _, rfl, .inr ⟨ha, (hB _).1, fun D hD => ?_⟩⟩
    refine lc_it (walk_zipT (n := 5) rfl) (fun i H' => Ex true [] H H' ∧ H' D = some (.lst (List.replicate i (.bl true))))
      ⟨.one hD, upd_same⟩ (fun i H' _ ⟨e, _⟩ => ⟨e.sqT ha, (hB _).1⟩) ?_ ?_
    · rintro i v H1 H2 hi ⟨e, e2⟩ ⟨T', x, y, rfl, nT, rfl, hx, hy⟩
      obtain ⟨z, b, lo, hi', rfl, rfl, hb, g1, g2⟩ := pick i x y hx hy
      have nDT : D ≠ T' := ne_of_none e2 nT
      refine ⟨T', _, rfl, .of upd_same, rfl, _, _, rfl, _, _, rfl, ⟨b, _, rfl, hb _, rfl, _, _, rfl, _, _, rfl, rfl, rfl, rfl, ?_⟩⟩
      refine ⟨_, rfl, _, rfl, _, rfl, z, lo, hi', rfl, g1, g2, List.replicate i (.bl true), by rw [upd_ne nDT]; exact e2, ?_, ?_⟩
      · rw [List.length_replicate, sizeLine_eq]
        omega
      · rw [reps]
        exact ⟨(e.new nT).app (.inr (.of hD)) (by rw [upd_ne nDT]; exact e2), upd_same⟩
    · rintro H1 ⟨e, e2⟩
      exact ⟨D, List.replicate _ true, rfl, by rw [mapTrue]; exact .of e2, by rw [allTrue]; exact k H1 e⟩
end Fb
namespace Fb
open PySem PySem.Spec PyProof.Rows L2
variable {P : Program} {w : World} {K : PySem.W.Frag} {mg : Str → Option Value} {base : Heap} {C : Addr}
def spIsHouse (K : PySem.W.Frag) : Sp := fun vs H Q _ => ∃ (v : V) (u : House), vs = [v] ∧ Dp K H v (encH u) ∧ HouseOk u ∧ ∀ H', Ex true [] H H' → Q (.bl true) H'
theorem sc_isHouse : FnScope ["thing", "one", "way"] ["thing"] (defScope s_is_house) := ⟨rfl, rfl, rfl, by decide +kernel, rfl, by decide +kernel, by decide +kernel⟩
theorem c_isHouse (T : Txt K mg C) : Cl P w K mg base 4 "is_house" (spIsHouse K) := by
  refine T.d_is_house.mk (ps := ["thing"]) (fun _ _ _ _ _ _ us hl => match us, hl with | [_], _ => rfl) sc_isHouse (fun vs H Q E h => ?_) fun f cdv A outer s H vs Q E hr h => ?_
  · obtain ⟨v, u, rfl, _⟩ := h
    rfl
  · obtain ⟨v, u, rfl, hv, ok, k⟩ := h
    obtain ⟨a, xs, rfl, ha, hp⟩ := hv.seq
    have hlen := hp.length
    have l0 := ok.l0
    have l1 := ok.l1
    have nd := sc_isHouse.nd
    refine ⟨_, pss_cons (ps_if (PW.pt (pw_or (pt_not (pt_val (pe_callB call_isi (by rfl) T.b_isinstance (by decide +kernel) (pa_cons (pv 0) (pa_cons (pe_bltn (v := .ty "tuple") (by rfl) T.b_tuple (by decide +kernel) rfl) pa_nil)))))
        (pw_or (pt_not (pt_chain op_le op_le pe_int (pe_callB call_len_seq (by rfl) T.b_len PySem.boot_len (pa_cons (pv 0) pa_nil)) (pe_gi T.c_MOST_WAYS)))
        (pw_or1 (pt_not (pt_val (pe_callB (cr_all rfl) (by rfl) T.b_all (by decide +kernel) (pa_cons (pe_lc (own := [("one", 1)]) (g := gName 1) (tt := tYes) rfl nd (pi_tup (pv 0))
          (blkOk_by (N := ["thing", "one", "way"]) (sc := defScope s_is_house) (by decide +kernel)) (fun _ _ _ _ _ => pg_name (i := 1) nd rfl (Or.inl rfl)) (fun _ _ _ _ _ => pts_nil) (fun _ _ _ _ _ => pe_f (c_isWay T) hr (pa_cons (pv 1) pa_nil))) pa_nil)))))))) (pss_one (ps_ret pe_bl)) pss_nil)
      (pss_one (ps_ret (pe_f (c_rises T) hr (pa_cons (pe_lc (own := [("way", 2)]) (g := gName 2) (tt := tYes) (te := tOp (rIxT K) (tVar 2) (tC (.int 0))) rfl nd (pi_tup (pv 0))
          (blkOk_by (N := ["thing", "one", "way"]) (sc := defScope s_is_house) (by decide +kernel)) (fun _ _ _ _ _ => pg_name (i := 2) nd rfl (Or.inl rfl)) (fun _ _ _ _ _ => pts_nil) (fun _ _ _ _ _ => pe_ix ix_tup (pv 2) pe_int (fun _ _ => rfl))) pa_nil)))), ?_⟩
    refine ⟨_, rfl, _, _, _, _, true, rfl, .ty _, tyT ha, kit_tt, true, rfl, iteF ?_⟩
    refine ⟨_, rfl, a, _, rfl, .inr ha, _, _, rfl, rfl, _, rfl, ?_⟩
    rw [decide_eq_true (show (1 : Int) ≤ (xs.length : Int) by omega)]
    refine iteT ⟨_, _, rfl, rfl, _, rfl, ?_⟩
    rw [decide_eq_true (show (xs.length : Int) ≤ 3 by omega)]
    refine iteF ⟨_, rfl, a, rfl, ⟨_, ha⟩, fun D hD => ?_⟩
    refine lc_it walk_tup (fun i H' => Ex true [] H H' ∧ H' D = some (.lst (List.replicate i (.bl true)))) ⟨.one hD, upd_same⟩ (fun i H' _ ⟨e, _⟩ => e.sqT ha) ?_ ?_
    · rintro i x H1 H2 hi ⟨e, e2⟩ ⟨rfl, hx⟩
      obtain ⟨u1, hu1, d1⟩ := hp.at_ hx
      refine ⟨rfl, _, rfl, x, u1, rfl, e.dp (tt_W u1) d1, ok.ways u1 (List.mem_of_getElem? hu1), fun H3 e3 => ?_⟩
      refine ⟨List.replicate i (.bl true), e3.lst e2 (by simp), ?_, ?_⟩
      · rw [List.length_replicate, sizeLine_eq]
        omega
      · rw [reps]
        exact ⟨(e.trans e3).app (.inr (.of hD)) (e3.lst e2 (by simp)), upd_same⟩
    · rintro H1 ⟨e, e2⟩
      refine ⟨D, List.replicate _ true, rfl, by rw [mapTrue]; exact .of e2, ?_⟩
      rw [allTrue]
      refine ⟨true, rfl, iteF ⟨_, rfl, a, rfl, ⟨_, e.sqT ha⟩, fun D2 hD2 => ?_⟩⟩
      refine lc_it walk_tup (fun i H' => Ex true [] H H' ∧ H' D2 = some (.lst (((u.take i).map (·.1)).map V.int))) ⟨e.new hD2, upd_same⟩ (fun i H' _ ⟨e, _⟩ => e.sqT ha) ?_ ?_
      · rintro i x H3 H4 hi ⟨e3, e4⟩ ⟨rfl, hx⟩
        obtain ⟨u1, hu1, d1⟩ := hp.at_ hx
        obtain ⟨b, rfl, hb⟩ := Dp.w d1
        refine ⟨rfl, _, rfl, b, _, _, _, rfl, rfl, e3.sqT hb, at0, _, e4, ?_, e3.app (.inr (e.nw hD2)) e4, ?_⟩
        · simp only [List.length_map, List.length_take]
          rw [sizeLine_eq]
          omega
        · rw [upd_same, List.take_add_one, hu1]
          simp
      · rintro H3 ⟨e3, e4⟩
        rw [hlen, List.take_length] at e4
        exact ⟨D2, u.map (·.1), rfl, e4, ok.rise, by rw [List.length_map]; omega, fun H5 e5 => k H5 (e3.trans e5)⟩
def spIsNet (K : PySem.W.Frag) : Sp := fun vs H Q _ => ∃ (v : V) (n : Net), vs = [v] ∧ Dp K H v (encN n) ∧ NetOk n ∧ ∀ H', Ex true [] H H' → Q (.bl true) H'
theorem sc_isNet : FnScope ["thing", "wide", "high", "clocks", "slip", "houses", "one"] ["thing"] (defScope s_is_net) := ⟨rfl, rfl, rfl, by decide +kernel, rfl, by decide +kernel, by decide +kernel⟩
theorem c_isNet (T : Txt K mg C) : Cl P w K mg base 5 "is_net" (spIsNet K) := by
  refine T.d_is_net.mk (ps := ["thing"]) (fun _ _ _ _ _ _ us hl => match us, hl with | [_], _ => rfl) sc_isNet (fun vs H Q E h => ?_) fun f cdv A outer s H vs Q E hr h => ?_
  · obtain ⟨v, u, rfl, _⟩ := h
    rfl
  · obtain ⟨v, n, rfl, hv, ok, k⟩ := h
    obtain ⟨a, b, hs, rfl, ha, hb, hp⟩ := hv.n
    have hlen := hp.length
    have w0 := ok.w0
    have w1 := ok.w1
    have h0 := ok.h0
    have h1 := ok.h1
    have c0 := ok.c0
    have c1 := ok.c1
    have s0 := ok.s0
    have s1 := ok.s1
    have l0 := ok.l0
    have l1 := ok.l1
    have nd := sc_isNet.nd
    refine ⟨_, pss_cons (ps_if (PW.pt (pw_or (pt_not (pt_val (pe_callB call_isi (by rfl) T.b_isinstance (by decide +kernel) (pa_cons (pv 0) (pa_cons (pe_bltn (v := .ty "tuple") (by rfl) T.b_tuple (by decide +kernel) rfl) pa_nil)))))
        (pw_or1 (pt_cmpR op_ne (pe_callB call_len_seq (by rfl) T.b_len PySem.boot_len (pa_cons (pv 0) pa_nil)) pe_int (nomark _))))) (pss_one (ps_ret pe_bl)) pss_nil)
      (pss_cons (ps_asg (pv 0) (pg_tup rfl (pgs_cons (pg_name (i := 1) nd rfl (Or.inl rfl)) (pgs_cons (pg_name (i := 2) nd rfl (Or.inl rfl)) (pgs_cons (pg_name (i := 3) nd rfl (Or.inl rfl)) (pgs_cons (pg_name (i := 4) nd rfl (Or.inl rfl)) (pgs_cons (pg_name (i := 5) nd rfl (Or.inl rfl)) pgs_nil)))))))
      (pss_cons (ps_if (PW.pt (pw_or (pt_not (pt_val (pe_f (c_within T) hr (pa_cons (pv 1) (pa_cons pe_int (pa_cons (pe_gi T.c_MOST_SIDE) pa_nil)))))) (pw_or1 (pt_not (pt_val (pe_f (c_within T) hr (pa_cons (pv 2) (pa_cons pe_int (pa_cons (pe_gi T.c_MOST_SIDE) pa_nil))))))))) (pss_one (ps_ret pe_bl)) pss_nil)
      (pss_cons (ps_if (PW.pt (pw_or (pt_not (pt_val (pe_f (c_within T) hr (pa_cons (pv 3) (pa_cons pe_int (pa_cons (pe_gi T.c_MOST_CLOCKS) pa_nil)))))) (pw_or1 (pt_not (pt_val (pe_f (c_within T) hr (pa_cons (pv 4) (pa_cons pe_int (pa_cons (pe_gi T.c_MOST_SLIP) pa_nil))))))))) (pss_one (ps_ret pe_bl)) pss_nil)
      (pss_one (ps_ret (pe_and (pe_callB call_isi (by rfl) T.b_isinstance (by decide +kernel) (pa_cons (pv 5) (pa_cons (pe_bltn (v := .ty "tuple") (by rfl) T.b_tuple (by decide +kernel) rfl) pa_nil)))
        (pe_and (pe_chain op_le op_le pe_int (pe_callB call_len_seq (by rfl) T.b_len PySem.boot_len (pa_cons (pv 5) pa_nil)) (pe_gi T.c_MOST_HOUSES))
        (pe_one (pe_callB (cr_all rfl) (by rfl) T.b_all (by decide +kernel) (pa_cons (pe_lc (own := [("one", 6)]) (g := gName 6) (tt := tYes) rfl nd (pi_tup (pv 5))
          (blkOk_by (N := ["thing", "wide", "high", "clocks", "slip", "houses", "one"]) (sc := defScope s_is_net) (by decide +kernel)) (fun _ _ _ _ _ => pg_name (i := 6) nd rfl (Or.inl rfl)) (fun _ _ _ _ _ => pts_nil) (fun _ _ _ _ _ => pe_f (c_isHouse T) hr (pa_cons (pv 6) pa_nil))) pa_nil)))))))))), ?_⟩
    refine ⟨_, rfl, _, _, _, _, true, rfl, .ty _, tyT ha, kit_tt, true, rfl, iteF ?_⟩
    refine ⟨_, rfl, a, _, rfl, .inr ha, rfl, _, rfl, iteF ?_⟩
    refine ⟨_, rfl, a, _, rfl, ha, rfl, _, _, rfl, _, _, rfl, _, _, rfl, _, _, rfl, _, _, rfl, rfl, ?_⟩
    refine ⟨_, rfl, n.wide, 1, 12, rfl, by omega, by omega, true, rfl, iteF ⟨_, rfl, n.high, 1, 12, rfl, by omega, by omega, true, rfl, iteF ?_⟩⟩
    refine ⟨_, rfl, n.clocks, 0, 12, rfl, by omega, by omega, true, rfl, iteF ⟨_, rfl, n.slip, 0, 4, rfl, by omega, by omega, true, rfl, iteF ?_⟩⟩
    refine ⟨_, rfl, _, _, _, _, true, rfl, .ty _, tyT hb, kit_tt, true, rfl, iteT ?_⟩
    refine ⟨_, rfl, b, _, rfl, .inr hb, _, _, rfl, rfl, _, rfl, ?_⟩
    rw [decide_eq_true (show (1 : Int) ≤ (hs.length : Int) by omega)]
    refine iteT ⟨_, _, rfl, rfl, true, ?_, iteT ?_⟩
    · show V.bl (decide ((hs.length : Int) ≤ 6)) = V.bl true
      rw [decide_eq_true (show (hs.length : Int) ≤ 6 by omega)]
    refine ⟨_, rfl, b, rfl, ⟨_, hb⟩, fun D hD => ?_⟩
    refine lc_it walk_tup (fun i H' => Ex true [] H H' ∧ H' D = some (.lst (List.replicate i (.bl true)))) ⟨.one hD, upd_same⟩ (fun i H' _ ⟨e, _⟩ => e.sqT hb) ?_ ?_
    · rintro i x H1 H2 hi ⟨e, e2⟩ ⟨rfl, hx⟩
      obtain ⟨u1, hu1, d1⟩ := hp.at_ hx
      refine ⟨rfl, _, rfl, x, u1, rfl, e.house d1, ok.houses u1 (List.mem_of_getElem? hu1), fun H3 e3 => ?_⟩
      refine ⟨List.replicate i (.bl true), e3.lst e2 (by simp), ?_, ?_⟩
      · rw [List.length_replicate, sizeLine_eq]
        omega
      · rw [reps]
        exact ⟨(e.trans e3).app (.inr (.of hD)) (e3.lst e2 (by simp)), upd_same⟩
    · rintro H1 ⟨e, e2⟩
      exact ⟨D, List.replicate _ true, rfl, by rw [mapTrue]; exact .of e2, by rw [allTrue]; exact k H1 e⟩
def spNeedNet (K : PySem.W.Frag) : Sp := fun vs H Q _ => ∃ (v : V) (n : Net), vs = [v] ∧ Dp K H v (encN n) ∧ NetOk n ∧ ∀ H', Ex true [] H H' → Q .non H'
theorem sc_needNet : FnScope ["thing"] ["thing"] (defScope s_need_net) := ⟨rfl, rfl, rfl, by decide +kernel, rfl, by decide +kernel, by decide +kernel⟩
theorem c_needNet (T : Txt K mg C) : Cl P w K mg base 6 "need_net" (spNeedNet K) := by
  refine T.d_need_net.mk (ps := ["thing"]) (fun _ _ _ _ _ _ us hl => match us, hl with | [_], _ => rfl) sc_needNet (fun vs H Q E h => ?_) fun f cdv A outer s H vs Q E hr h => ?_
  · obtain ⟨v, n, rfl, _⟩ := h
    rfl
  · obtain ⟨v, n, rfl, hv, ok, k⟩ := h
    refine ⟨_, pss_one (ps_if (pt_not (pt_val (pe_f (c_isNet T) hr (pa_cons (pv 0) pa_nil)))) (pss_one ps_never) pss_nil), ?_⟩
    exact ⟨_, rfl, v, n, rfl, hv, ok, fun H1 x1 => ⟨true, rfl, iteF (k H1 x1)⟩⟩
def spNeedSigned (K : PySem.W.Frag) : Sp := fun vs H Q _ => ∃ (nv sv gv : V) (n : Net) (s : Stand) (g : Sign), vs = [nv, sv, gv] ∧ Dp K H nv (encN n) ∧ Dp K H sv (encS s) ∧ Dp K H gv (encS g) ∧ NetOk n ∧ inNet n s ∧ SignOk n g ∧ ∀ H', Ex true [] H H' → Q .non H'
theorem sc_needSigned : FnScope ["net", "stand", "sign"] ["net", "stand", "sign"] (defScope s_need_signed) := ⟨rfl, rfl, rfl, by decide +kernel, rfl, by decide +kernel, by decide +kernel⟩
theorem c_needSigned (T : Txt K mg C) : Cl P w K mg base 7 "need_signed" (spNeedSigned K) := by
  refine T.d_need_signed.mk (ps := ["net", "stand", "sign"]) (fun _ _ _ _ _ _ us hl => match us, hl with | [_, _, _], _ => rfl) sc_needSigned (fun vs H Q E h => ?_) fun f cdv A outer s H vs Q E hr h => ?_
  · obtain ⟨nv, sv, gv, n, s, g, rfl, _⟩ := h
    rfl
  · obtain ⟨nv, sv, gv, n, st, g, rfl, hn, hs, hg, nok, sok, gok, k⟩ := h
    refine ⟨_, pss_cons (ps_expr (pe_f (c_needNet T) hr (pa_cons (pv 0) pa_nil))) (pss_cons (ps_expr (pe_f (c_needStand T) hr (pa_cons (pv 0) (pa_cons (pv 1) pa_nil)))) (pss_one (ps_expr (pe_f (c_needSign T) hr (pa_cons (pv 0) (pa_cons (pv 2) pa_nil)))))), ?_⟩
    refine ⟨_, rfl, nv, n, rfl, hn, nok, fun H1 e1 => ⟨_, rfl, _, rfl, nv, sv, n, st, rfl, e1.net hn, e1.stand hs, sok, fun H2 e2 => ⟨_, rfl, _, rfl, nv, gv, n, g, rfl, e2.net (e1.net hn), e2.stand (e1.stand hg), nok, gok, fun H3 e3 => k H3 ((e1.trans e2).trans e3)⟩⟩⟩
def spFitsP (K : PySem.W.Frag) : Sp := fun vs H Q _ => ∃ (nv sv gv : V) (n : Net) (s : Stand) (g : Sign), vs = [nv, sv, gv] ∧ Dp K H nv (encN n) ∧ Dp K H sv (encS s) ∧ Dp K H gv (encS g) ∧ NetOk n ∧ inNet n s ∧ SignOk n g ∧ ∀ H', Ex true [] H H' → Q (.bl (fitsB n s g)) H'
theorem sc_fits : FnScope ["net", "stand", "sign"] ["net", "stand", "sign"] (defScope s_fits) := ⟨rfl, rfl, rfl, by decide +kernel, rfl, by decide +kernel, by decide +kernel⟩
theorem c_fits (T : Txt K mg C) : Cl P w K mg base 8 "fits" (spFitsP K) := by
  refine T.d_fits.mk (ps := ["net", "stand", "sign"]) (fun _ _ _ _ _ _ us hl => match us, hl with | [_, _, _], _ => rfl) sc_fits (fun vs H Q E h => ?_) fun f cdv A outer s H vs Q E hr h => ?_
  · obtain ⟨nv, sv, gv, n, s, g, rfl, _⟩ := h
    rfl
  · obtain ⟨nv, sv, gv, n, st, g, rfl, hn, hs, hg, nok, sok, gok, k⟩ := h
    refine ⟨_, pss_cons (ps_expr (pe_f (c_needSigned T) hr (pa_cons (pv 0) (pa_cons (pv 1) (pa_cons (pv 2) pa_nil))))) (pss_one (ps_ret (pe_f (c_fitsBy T) hr (pa_cons (pv 0) (pa_cons (pv 1) (pa_cons (pv 2) pa_nil)))))), ?_⟩
    exact ⟨_, rfl, _, rfl, _, rfl, nv, sv, gv, n, st, g, rfl, hn, hs, hg, nok, sok, gok, fun H1 e1 => ⟨_, rfl, _, rfl, _, rfl, nv, sv, gv, n, st, g, rfl, e1.net hn, e1.stand hs, e1.stand hg, nok, gok, fun H2 e2 => k H2 (e1.trans e2)⟩⟩
end Fb
namespace Fb
open PySem PySem.Spec PyProof.Rows L2
variable {P : Program} {w : World} {K : PySem.W.Frag} {mg : Str → Option Value} {base : Heap} {C : Addr}
end Fb
namespace Fb3
open PySem PySem.Spec PyProof.Rows L2
/-! ### a comprehension of three clauses -/
abbrev Quiet : Value → Shared → Prop := fun _ _ => False
theorem toF {α : Type} {t : Sem α} {Q Q' : α → Shared → Prop} {M : Model} {A : Around} {E E' : Value → Shared → Prop} {s : Shared} (h : wpAny M A t Q E s) (hE : E = Quiet) (hQ : ∀ a s, Q a s → Q' a s) : wpAny M A t Q' E' s :=
  wpAny_mono h hQ fun _ _ z => by rw [hE] at z; exact z.elim
section
variable {P : Program} {w : World} {A : Around} {R : Result → Shared → Prop} {s : Shared} {env : Env}
/-- one clause's loop, by what a turn does -/
theorem loop_run {elt tk ik : Expr} {gens : List Comprehension} {scope : Scope} {pos : Pos} {k : Nat} {inner : Sem Unit} {it acc : Value}
    (e : compTurn (.ListComp elt gens scope pos) k it acc env = (standAt ik.pos >>= fun _ => pyNext it >>= fun r => match r with
      | none => pure (.done .next)
      | some v => letOwnedTupleGo tk it v >>= fun _ => assign tk env v >>= fun _ => inner >>= fun _ => again (.compLoop (.ListComp elt gens scope pos) k it acc env)))
    (I : Nat → Shared → Prop)
    (turn : ∀ n s, I n s → wpAny (model P w) A (pyNext it) (fun r s1 => match r with
      | none => R (.ok .next) s1
      | some v => wpAny (model P w) A (letOwnedTupleGo tk it v) (fun _ s2 => wpAny (model P w) A (assign tk env v) (fun _ s3 => wpAny (model P w) A inner (fun _ s4 => ∃ m, m < n ∧ I m s4) Quiet s3) Quiet s2) Quiet s1) Quiet s)
    (n : Nat) (h : I n s) : codeAny (model P w) A (.compLoop (.ListComp elt gens scope pos) k it acc env) R s := by
  refine codeAny_loop rfl I (fun n s hI => ?_) n h
  show wpAny _ A ((compTurn (.ListComp elt gens scope pos) k it acc env).onRaise (fun x => do noteFrame x env; theTreesLotGoes x)) _ _ s
  refine wpAny_noted ?_
  rw [e]
  refine wpAny_bind (wpAny_standAt (wpAny_bind (toF (turn n s hI) rfl fun r s1 h1 => ?_)))
  cases r with
  | none => exact wpAny_pure h1
  | some v =>
    exact wpAny_bind (toF h1 rfl fun _ s2 h2 => wpAny_bind (toF h2 rfl fun _ s3 h3 => wpAny_bind (toF h3 rfl fun _ s4 h4 => wpAny_pure ⟨rfl, h4⟩)))
/-- a clause's start -/
theorem start_run {elt : Expr} {gens : List Comprehension} {g : Comprehension} {scope : Scope} {pos : Pos} {k : Nat} {it acc : Value} (hk : gens[k]? = some g) (ha : g.is_async = 0)
    (h0 : codeAny (model P w) A (.compLoop (.ListComp elt gens scope pos) k it acc env) R s)
    (h : wpAny (model P w) A (pyIter it) (fun it' s' => codeAny (model P w) A (.compLoop (.ListComp elt gens scope pos) k it' acc env) R s') Quiet s) :
    codeAny (model P w) A (.compStart (.ListComp elt gens scope pos) k it acc env) R s := by
  refine codeAny_of_tree ?_
  show wpAny _ _ ((compStart (.ListComp elt gens scope pos) k it acc env).onRaise (fun x => do noteFrame x env; standAt theWindowsPlace)) _ _ s
  refine wpAny_notedAt ?_
  have hc : (clausesOf (.ListComp elt gens scope pos))[k]? = some g := hk
  have hb : ((clausesOf (.ListComp elt gens scope pos))[k]?).elim false (·.is_async != 0) = false := by
    rw [hc]
    show (g.is_async != 0) = false
    rw [ha]
    rfl
  unfold compStart
  rw [hb]
  show wpAny _ _ (ask >>= _) _ _ s
  refine wpAny_bind (wpAny_askSetting (wpAny_ite ?_))
  split
  · first
      | exact wpAny_bind (wpAny_pure (wpAny_pure (And.intro rfl h0)))
      | exact wpAny_pure (And.intro rfl h0)
  · rw [hc]
    refine wpAny_bind (wpAny_rule ?_)
    refine wpAny_bind (wpAny_standAt (wpAny_bind (toF h rfl fun it' s' h' => wpAny_pure (And.intro rfl h'))))
end
/-- what is left of a turn, the slots us forgotten behind it -/
abbrev TR := L2.St → Hp → (Hp → Prop) → Prop
structure Inr (Y : Cx) (t : Sem Unit) (r : TR) (us : List Nat) : Prop where
  run : ∀ (pins : List (Addr × Obj)) (s : Shared) (σ : L2.St) (H : Hp) (N : Hp → Prop), Inv Y pins σ H s → r σ H N → wpAny (model Y.prog Y.w) Y.A t (fun _ s' => ∃ H', Inv Y pins (wipe σ us) H' s' ∧ N H') Quiet s
/-- the element is appended -/
def tApp (te : TE) (D : Addr) : TR := fun σ H N => te σ H fun y H' => ∃ acc, H' D = some (.lst acc) ∧ acc.length < sizeLine ∧ N (upd H' D (.lst (acc ++ [y])))
/-- a clause: its own loop, from which N is reached -/
def tLoop (wi : TI) (g : TG) (r : TR) (vs : List Nat) : TR := fun σ H N => wi σ H fun J H1 => ∃ W : Nat → Nat → Hp → Prop, (∃ m, W 0 m H1) ∧ ∀ i m H, W i m H →
  (J.stop i H ∧ N H) ∨ (J.go i H ∧ ∃ Nx : Hp → Prop, (∀ H', Nx H' → ∃ m', m' < m ∧ W (i + 1) m' H') ∧ ∀ x H', J.yld i H x H' → g x (wipe σ vs) H' fun σ2 H2 => wipe σ2 vs = wipe σ vs ∧ r σ2 H2 Nx)
section
variable {Y : Cx}
theorem inr_app {elt : Expr} {te : TE} {D : Addr} (hx : Y.xe = Quiet) (he : PE Y elt te) : Inr Y (eval elt Y.env >>= fun x => call (.builtin "list.append") [.ref D, x] >>= fun _ => pure ()) (tApp te D) [] := by
  refine ⟨fun pins s σ H N I h => ?_⟩
  refine wpAny_bind (toF (he.run pins s σ H _ I h) hx fun v s1 ⟨y, H1, I1, ry, acc, hD, hz, n⟩ => ?_)
  exact wpAny_bind (app_ok I1 hD hz ry fun s2 I2 => wpAny_pure ⟨_, I2, n⟩)
/-- the turns of a clause's loop over an iterator that stands -/
theorem loop_inv {elt tk ik : Expr} {gens : List Comprehension} {scope : Scope} {pos : Pos} {k : Nat} {inner : Sem Unit} {D it : Addr} {fp : List Addr} {tn : Nat → Heap → Prop} {J : It} {g : TG} {r : TR} {us vs : List Nat} {pins : List (Addr × Obj)} {σ : L2.St} {H : Hp} {s : Shared} {N : Hp → Prop}
    (hc : Y.calm = true) (hx : Y.xe = Quiet) (T : Turn Y.prog Y.w Y.K tk J fp it tn) (hg : PG Y tk g) (hr : Inr Y inner r us) (hu : ∀ i ∈ us, i ∈ vs)
    (e : compTurn (.ListComp elt gens scope pos) k (.ref it) (.ref D) Y.env = (standAt ik.pos >>= fun _ => pyNext (.ref it) >>= fun r => match r with
      | none => pure (.done .next)
      | some v => letOwnedTupleGo tk (.ref it) v >>= fun _ => assign tk Y.env v >>= fun _ => inner >>= fun _ => again (.compLoop (.ListComp elt gens scope pos) k (.ref it) (.ref D) Y.env)))
    (I : Inv Y pins σ H s) (st : tn 0 s.heap) (hf : ∀ b ∈ fp, FpOk Y pins H b)
    (h : ∃ W : Nat → Nat → Hp → Prop, (∃ m, W 0 m H) ∧ ∀ i m H, W i m H →
      (J.stop i H ∧ N H) ∨ (J.go i H ∧ ∃ Nx : Hp → Prop, (∀ H', Nx H' → ∃ m', m' < m ∧ W (i + 1) m' H') ∧ ∀ x H', J.yld i H x H' → g x (wipe σ vs) H' fun σ2 H2 => wipe σ2 vs = wipe σ vs ∧ r σ2 H2 Nx)) :
    codeAny (model Y.prog Y.w) Y.A (.compLoop (.ListComp elt gens scope pos) k (.ref it) (.ref D) Y.env) (fun r s' => match r with
      | .ok _ => ∃ H', Inv Y pins (wipe σ vs) H' s' ∧ N H'
      | .error _ => False) s := by
  obtain ⟨W, ⟨m0, w0⟩, turn⟩ := h
  have stat : ∀ {H' : Hp}, (∀ b ∈ fp, H' b = none) → ∀ b ∈ fp, FpOk Y pins H' b := fun hn b hb => ⟨hn b hb, (hf b hb).2⟩
  refine loop_run e (fun n s' => ∃ i H', Inv Y pins (wipe σ vs) H' s' ∧ tn i s'.heap ∧ (∀ b ∈ fp, H' b = none) ∧ W i n H') ?_ m0
    ⟨0, H, I.weak (wipe_length _ _) (fun j v q => (wipe_some q).1), st, fun b hb => (hf b hb).1, w0⟩
  rintro n s1 ⟨i, H1, I1, st1, fr1, w1⟩
  rcases turn i n H1 w1 with ⟨stop, qn⟩ | ⟨go, Nx, hN, step⟩
  · refine toF (T.done Y rfl rfl rfl hc i pins s1 _ H1 Quiet I1 (stat fr1) st1 stop) rfl fun o s2 ⟨ho, I2⟩ => ?_
    subst ho
    exact ⟨H1, I2, qn⟩
  · refine toF (T.item Y rfl rfl rfl hc i pins s1 _ H1 Quiet I1 (stat fr1) st1 go) rfl fun o s2 ⟨u, ho, h2⟩ => ?_
    subst ho
    refine toF h2 rfl fun _ s3 ⟨x, H3, I3, r3, y3, st3, fr3⟩ => ?_
    have I3' := I3.pinned (stat fr3) (T.obj _ _ st3)
    refine toF (hg.run _ s3 _ H3 x u _ I3' r3 (step x H3 y3)) hx fun _ s4 ⟨σ4, H4, I4, hw, q4⟩ => ?_
    refine toF (hr.run _ s4 σ4 H4 Nx I4 q4) rfl fun _ s5 ⟨H5, I5, n5⟩ => ?_
    obtain ⟨m', hm, w5⟩ := hN H5 n5
    have pin5 : ∀ b ∈ fp, ∀ o, s3.heap.get? b = some o → s5.heap.get? b = some o ∧ H5 b = none := fun b hb o q =>
      let z := I5.pin (b, o) (List.mem_append_right _ (List.mem_append_right _ (mem_pinsAt hb q)))
      ⟨z.1, z.2.1⟩
    refine ⟨m', hm, i + 1, H5, I5.unpinned.weak (by rw [← hw, wipe_length, wipe_length]) (fun j v q => ?_), T.keep _ _ _ st3 fun b hb o q => (pin5 b hb o q).1, fun b hb => ?_, w5⟩
    · rw [← hw] at q
      obtain ⟨q1, q2⟩ := wipe_some q
      rw [wipe_out fun z => q2 (hu j z)]
      exact q1
    · obtain ⟨o, q, _⟩ := T.obj _ _ st3 b hb
      exact (pin5 b hb o q).2
/-- a clause's source and its loop, as what is left of a turn -/
theorem inr_for {elt tk ik : Expr} {gens : List Comprehension} {gk : Comprehension} {scope : Scope} {pos : Pos} {k : Nat} {inner : Sem Unit} {D : Addr} {wi : TI} {g : TG} {r : TR} {us vs : List Nat}
    (hc : Y.calm = true) (hx : Y.xe = Quiet) (hi : PI Y tk ik wi) (hg : PG Y tk g) (hr : Inr Y inner r us) (hu : ∀ i ∈ us, i ∈ vs) (hk : gens[k]? = some gk) (ha : gk.is_async = 0) (hs : ∀ x, foldedSetIterable ik Y.env x = pure x)
    (e : ∀ it : Value, compTurn (.ListComp elt gens scope pos) k it (.ref D) Y.env = (standAt ik.pos >>= fun _ => pyNext it >>= fun r => match r with
      | none => pure (.done .next)
      | some v => letOwnedTupleGo tk it v >>= fun _ => assign tk Y.env v >>= fun _ => inner >>= fun _ => again (.compLoop (.ListComp elt gens scope pos) k it (.ref D) Y.env))) :
    Inr Y (eval ik Y.env >>= fun x => standAt ik.pos >>= fun _ => foldedSetIterable ik Y.env x >>= fun x => holding [x] (pyIter x) >>= fun itv => runOwn (.compStart (.ListComp elt gens scope pos) k itv (.ref D) Y.env) Y.env >>= fun _ => pure ())
      (tLoop wi g r vs) vs := by
  refine ⟨fun pins s σ H N I h => ?_⟩
  refine wpAny_bind (toF (hi.run pins s σ H _ I h) hx fun xv s1 h1 => ?_)
  refine wpAny_bind (wpAny_standAt (wpAny_bind (wpAny_of_eq (hs xv) (wpAny_bind (wpAny_holding (toF h1 hx fun itv s2 h2 => ?_))))))
  obtain ⟨it, fp, tn, J, H2, e2, I2, T, st2, f2, q2⟩ := h2
  subst e2
  refine wpAny_bind (wpAny_runOwn ?_)
  rw [Around.mark_none]
  have lp := loop_inv (N := N) hc hx T hg hr hu (e (.ref it)) I2 st2 f2 q2
  refine codeAny_mono (start_run hk ha lp (T.self Y.A 0 _ _ _ st2 lp)) fun o s3 ho => ?_
  cases o with
  | ok f => exact wpAny_pure ho
  | error x => exact ho.elim
end
theorem wipe_at {σ : L2.St} {i : Nat} : ∀ {vs : List Nat}, i ∈ vs → (wipe σ vs)[i]? = none ∨ (wipe σ vs)[i]? = some none
  | v :: vs, h => by
    by_cases e : v = i
    · unfold wipe
      subst e
      by_cases l : v < (wipe σ vs).length
      · exact .inr (List.getElem?_set_self l)
      · exact .inl (List.getElem?_eq_none (by rw [List.length_set]; omega))
    · unfold wipe
      rw [List.getElem?_set_ne e]
      rcases List.mem_cons.mp h with z | z
      · exact absurd z.symm e
      · exact wipe_at z
theorem wipe_wipe {σ : L2.St} {vs : List Nat} : wipe (wipe σ vs) vs = wipe σ vs := by
  refine List.ext_getElem? fun i => ?_
  by_cases h : i ∈ vs
  · have l : (wipe (wipe σ vs) vs).length = (wipe σ vs).length := by rw [wipe_length]
    rcases wipe_at (σ := wipe σ vs) h with e1 | e1 <;> rcases wipe_at (σ := σ) h with e2 | e2
    · rw [e1, e2]
    · have q1 := List.getElem?_eq_none_iff.mp e1
      have q2 := (List.getElem?_eq_some_iff.mp e2).1
      omega
    · have q1 := List.getElem?_eq_none_iff.mp e2
      have q2 := (List.getElem?_eq_some_iff.mp e1).1
      omega
    · rw [e1, e2]
  · rw [wipe_out h]
section
variable {X : Cx}
def tLc3 (wi : TI) (g : TG) (r : Addr → TR) (vs : List Nat) : TE := fun σ H Q => wi σ H fun J H1 => ∀ D, H1 D = none → ∃ W : Nat → Nat → Hp → Prop, (∃ m, W 0 m (upd H1 D (.lst []))) ∧ ∀ i m H, W i m H →
  (J.stop i H ∧ Q (.ref D) H) ∨ (J.go i H ∧ ∃ Nx : Hp → Prop, (∀ H', Nx H' → ∃ m', m' < m ∧ W (i + 1) m' H') ∧ ∀ x H', J.yld i H x H' → g x (wipe σ vs) H' fun σ2 H2 => wipe σ2 vs = wipe σ vs ∧ r D σ2 H2 Nx)
/-- [elt for t0 in i0 for t1 in i1 for t2 in i2] -/
theorem pe_lc3 {elt t0 i0 t1 i1 t2 i2 : Expr} {scope : Scope} {own : List (Str × Nat)} {vs1 vs2 : List Nat} {pos : Pos} {wi0 wi1 wi2 : TI} {g0 g1 g2 : TG} {te : TE} (hc : X.calm = true) (hN : X.N.Nodup) (hi0 : PI X t0 i0 wi0)
    (ok : BlkOk X.N X.env.scope scope own) (h21 : ∀ i ∈ vs2, i ∈ vs1) (h10 : ∀ i ∈ vs1, i ∈ own.map (·.2))
    (hg0 : ∀ (s : Shared) (H : Hp) (C : Addr) (cl : List (Str × Addr)) (fp : List Addr), PG (X.blk s H scope (compEnvC scope cl C X.env) fp) t0 g0)
    (hi1 : ∀ (s : Shared) (H : Hp) (C : Addr) (cl : List (Str × Addr)) (fp : List Addr), PI (X.blk s H scope (compEnvC scope cl C X.env) fp) t1 i1 wi1)
    (hg1 : ∀ (s : Shared) (H : Hp) (C : Addr) (cl : List (Str × Addr)) (fp : List Addr), PG (X.blk s H scope (compEnvC scope cl C X.env) fp) t1 g1)
    (hi2 : ∀ (s : Shared) (H : Hp) (C : Addr) (cl : List (Str × Addr)) (fp : List Addr), PI (X.blk s H scope (compEnvC scope cl C X.env) fp) t2 i2 wi2)
    (hg2 : ∀ (s : Shared) (H : Hp) (C : Addr) (cl : List (Str × Addr)) (fp : List Addr), PG (X.blk s H scope (compEnvC scope cl C X.env) fp) t2 g2)
    (he : ∀ (s : Shared) (H : Hp) (C : Addr) (cl : List (Str × Addr)) (fp : List Addr), PE (X.blk s H scope (compEnvC scope cl C X.env) fp) elt te)
    (hs0 : ∀ x, foldedSetIterable i0 X.env x = pure x := by intro _; rfl) (hs1 : ∀ env x, foldedSetIterable i1 env x = pure x := by intro _ _; rfl) (hs2 : ∀ env x, foldedSetIterable i2 env x = pure x := by intro _ _; rfl) :
    PE X (.ListComp elt [⟨t0, i0, [], 0⟩, ⟨t1, i1, [], 0⟩, ⟨t2, i2, [], 0⟩] scope pos) (tLc3 wi0 g0 (fun D => tLoop wi1 g1 (tLoop wi2 g2 (tApp te D) vs2) vs1) (own.map (·.2))) := by
  refine ⟨fun pins s σ H Q I h => ?_⟩
  rw [eval_ListComp]
  have hfree : ∀ y ∈ scope.names, y.2 = .free → ∃ c, X.env.cells.lookup y.1 = some c := fun y hy e => (ok.free y hy e).elim (fun k => I.ok.has _ (.inl k)) fun k => I.ok.has _ (.inr k)
  refine wpAny_comprehension_free (use := none) rfl hs0 (closure_ok hfree) ok.kind (fun y hy e => by rw [ok.uniq y hy, e]) (thn (hi0.run pins s σ H _ I h) fun xv s1 hx => thn hx fun itv s2 h2 => ?_)
  obtain ⟨it, fp, tn, J, H2, e, I2, T, st2, f2, q⟩ := h2
  subst e
  refine wpAny_newObj_type (newEnv_comp ?_) (by show 0 ≤ sizeLine; decide)
  have dn : H2 s2.heap.objs.size = none := I2.hok.fresh (Nat.le_refl _)
  have hq := q s2.heap.objs.size dn
  -- the new list
  obtain ⟨D, eD⟩ : ∃ D, D = s2.heap.objs.size := ⟨_, rfl⟩
  obtain ⟨s3, e3⟩ : ∃ s3 : Shared, s3 = { s2 with heap := s2.heap.push { cls := .type "list", data := .seq ([] : List Value).toArray } } := ⟨_, rfl⟩
  have k3 : ∀ b o, s2.heap.get? b = some o → s3.heap.get? b = some o := fun b o q => by rw [e3]; exact Heap.get?_push_of_some _ q
  have z3 : s3.heap.objs.size = s2.heap.objs.size + 1 := by rw [e3]; exact Heap.size_push ..
  rw [← eD] at hq dn
  have I3 : Inv X pins σ (upd H2 D (.lst [])) s3 := by
    have new : ObjOk X.prog X.w (upd H2 D (.lst [])) s3.heap D (.lst []) := ⟨Nat.zero_le _, [], 0, .nil, by rw [e3, eD]; exact Heap.get?_push_size _ rfl⟩
    rw [e3] at new ⊢
    exact I2.laid (t' := s2.toks) (fun b o q => Heap.get?_push_of_some _ q) (Nat.le_of_eq eD.symm) new
  have lt2 : ∀ b ∈ fp, b < s2.heap.objs.size := fun b hb => by
    obtain ⟨o, q, _⟩ := T.obj _ _ st2 b hb
    exact Heap.lt_size q
  have f3 : ∀ b ∈ fp, FpOk X pins (upd H2 D (.lst [])) b ∧ b < s3.heap.objs.size := fun b hb => by
    have l := lt2 b hb
    refine ⟨⟨?_, (f2 b hb).2⟩, by rw [z3]; exact Nat.lt_succ_of_lt l⟩
    rw [upd_ne (by rw [eD]; exact Nat.ne_of_lt l)]
    exact (f2 b hb).1
  have I4 := block_start I3 ok hN f3
  show codeAny _ _ (.compStart (.ListComp elt [⟨t0, i0, [], 0⟩, ⟨t1, i1, [], 0⟩, ⟨t2, i2, [], 0⟩] scope pos) 0 (.ref it) (.ref s2.heap.objs.size) (compEnvC scope (cellsFrom (({ s2 with heap := s2.heap.push { cls := .type "list", data := .seq ([] : List Value).toArray } } : Shared).heap.objs.size + 1) scope.names (cloFrom X.env.cells scope.names [])) ({ s2 with heap := s2.heap.push { cls := .type "list", data := .seq ([] : List Value).toArray } } : Shared).heap.objs.size X.env))
    (compPost (model X.prog X.w) X.A X.xe none _ (.ref s2.heap.objs.size) ({ s2 with heap := s2.heap.push { cls := .type "list", data := .seq ([] : List Value).toArray } } : Shared).heap.objs.size)
    { ({ s2 with heap := s2.heap.push { cls := .type "list", data := .seq ([] : List Value).toArray } } : Shared) with heap := pushCells (({ s2 with heap := s2.heap.push { cls := .type "list", data := .seq ([] : List Value).toArray } } : Shared).heap.push { cls := .type "dict", data := .dict #[] }) scope.names }
  rw [← e3, ← eD]
  have pg0 := hg0 s3 (upd H2 D (.lst [])) s3.heap.objs.size (cellsFrom (s3.heap.objs.size + 1) scope.names (cloFrom X.env.cells scope.names [])) fp
  have pi1 := hi1 s3 (upd H2 D (.lst [])) s3.heap.objs.size (cellsFrom (s3.heap.objs.size + 1) scope.names (cloFrom X.env.cells scope.names [])) fp
  have pg1 := hg1 s3 (upd H2 D (.lst [])) s3.heap.objs.size (cellsFrom (s3.heap.objs.size + 1) scope.names (cloFrom X.env.cells scope.names [])) fp
  have pi2 := hi2 s3 (upd H2 D (.lst [])) s3.heap.objs.size (cellsFrom (s3.heap.objs.size + 1) scope.names (cloFrom X.env.cells scope.names [])) fp
  have pg2 := hg2 s3 (upd H2 D (.lst [])) s3.heap.objs.size (cellsFrom (s3.heap.objs.size + 1) scope.names (cloFrom X.env.cells scope.names [])) fp
  have pe := he s3 (upd H2 D (.lst [])) s3.heap.objs.size (cellsFrom (s3.heap.objs.size + 1) scope.names (cloFrom X.env.cells scope.names [])) fp
  have st4 : tn 0 (pushCells (s3.heap.push { cls := .type "dict", data := .dict #[] }) scope.names) := T.keep _ _ _ st2 fun b _ o q => pushCells_keeps _ _ _ _ (Heap.get?_push_of_some _ (k3 b o q))
  have cL : (compEnvC scope (cellsFrom (s3.heap.objs.size + 1) scope.names (cloFrom X.env.cells scope.names [])) s3.heap.objs.size X.env).locals = s3.heap.objs.size := rfl
  generalize compEnvC scope (cellsFrom (s3.heap.objs.size + 1) scope.names (cloFrom X.env.cells scope.names [])) s3.heap.objs.size X.env = ce at I4 pg0 pi1 pg1 pi2 pg2 pe cL ⊢
  have fY : ∀ b ∈ fp, FpOk (X.blk s3 (upd H2 D (.lst [])) scope ce fp) [] (upd H2 D (.lst [])) b := fun b hb =>
    ⟨(f3 b hb).1.1, (I4.ok.exf b hb).1, I4.ok.exfs b hb, .inl hb, fun x c e => (I4.ok.exf b hb).2 x c e, fun p hp => absurd (show p ∈ ([] : List (Addr × Obj)) ++ [] from hp) (by simp)⟩
  have in2 : Inr (X.blk s3 (upd H2 D (.lst [])) scope ce fp) _ (tLoop wi2 g2 (tApp te D) vs2) vs2 :=
    inr_for (elt := elt) (gens := [⟨t0, i0, [], 0⟩, ⟨t1, i1, [], 0⟩, ⟨t2, i2, [], 0⟩]) (scope := scope) (pos := pos) (k := 2) (D := D) hc rfl pi2 pg2 (inr_app rfl pe) (fun i z => by cases z) rfl rfl (hs2 _) (fun it => rfl)
  have in1 : Inr (X.blk s3 (upd H2 D (.lst [])) scope ce fp) _ (tLoop wi1 g1 (tLoop wi2 g2 (tApp te D) vs2) vs1) vs1 :=
    inr_for (elt := elt) (gens := [⟨t0, i0, [], 0⟩, ⟨t1, i1, [], 0⟩, ⟨t2, i2, [], 0⟩]) (scope := scope) (pos := pos) (k := 1) (D := D) hc rfl pi1 pg1 in2 h21 rfl rfl (hs1 _) (fun it => by simp only [bind_assoc, pure_bind]; rfl)
  have lp := loop_inv (Y := X.blk s3 (upd H2 D (.lst [])) scope ce fp) (elt := elt) (gens := [⟨t0, i0, [], 0⟩, ⟨t1, i1, [], 0⟩, ⟨t2, i2, [], 0⟩]) (scope := scope) (pos := pos) (k := 0) (D := D) (it := it) (N := fun H' => Q (.ref D) H') (vs := own.map (·.2)) (σ := wipe σ (own.map (·.2))) hc rfl T pg0 in1 h10 (by simp only [bind_assoc, pure_bind]; rfl) I4 st4 fY
    (by rw [wipe_wipe]; exact hq)
  refine codeAny_mono (start_run rfl rfl lp (T.self X.A 0 _ _ _ st4 lp)) fun o s5 ho => ?_
  cases o with
  | error x => exact ho.elim
  | ok f =>
    obtain ⟨H5, I5, q5⟩ := ho
    have I7 : Inv X pins σ H5 s5 := I3.call' (ch := fp) I5.os I5.base I5.hok I5.bare fun b hb => ⟨(f3 b hb).1.2.2.2.1, (f3 b hb).1.2.1, (f3 b hb).1.2.2.2.2.1, (f3 b hb).1.2.2.2.2.2⟩
    have nC : H5 s3.heap.objs.size = none := by
      have z : H5 ce.locals = none := I5.free
      rw [cL] at z
      exact z
    obtain ⟨m, hn, _⟩ := I5.loc
    have hn : s5.heap.Ns ce.locals m := hn
    rw [cL] at hn
    refine ⟨m, hn, fun h'' sb => ?_⟩
    obtain ⟨g0', g1', g2', g3', g4', g5'⟩ := I3.fpOk (Nat.le_refl _) nC
    exact ⟨.ref D, H5, I7.turned (t' := s5.toks) (fun b o hb q => (sb.2 b hb).trans q) g0' g1' g3' g4' g5', rfl, q5⟩
end
/-- a clause's loop over a walk: Pv by the turn and the heap -/
theorem loop_it {J : It} {n : Nat} {G : Hp → Prop} {Yd : Nat → Hp → V → Hp → Prop} (w : Walk J n G Yd) {g : TG} {r : TR} {vs : List Nat} {σ : L2.St} {H : Hp} {N : Hp → Prop} (Pv : Nat → Hp → Prop) (h0 : Pv 0 H) (hG : ∀ i H, i ≤ n → Pv i H → G H)
    (hs : ∀ i x H H', i < n → Pv i H → Yd i H x H' → g x (wipe σ vs) H' fun σ2 H2 => wipe σ2 vs = wipe σ vs ∧ r σ2 H2 (Pv (i + 1))) (hd : ∀ H, Pv n H → N H) :
    ∃ W : Nat → Nat → Hp → Prop, (∃ m, W 0 m H) ∧ ∀ i m H, W i m H →
      (J.stop i H ∧ N H) ∨ (J.go i H ∧ ∃ Nx : Hp → Prop, (∀ H', Nx H' → ∃ m', m' < m ∧ W (i + 1) m' H') ∧ ∀ x H', J.yld i H x H' → g x (wipe σ vs) H' fun σ2 H2 => wipe σ2 vs = wipe σ vs ∧ r σ2 H2 Nx) := by
  refine ⟨fun i m H => i + m = n ∧ Pv i H, ⟨n, Nat.zero_add n, h0⟩, ?_⟩
  rintro i m H ⟨e, p⟩
  have q := hG i H (by omega) p
  rcases Nat.lt_or_ge i n with l | l
  · exact .inr ⟨w.goes i H l q, Pv (i + 1), fun H' p' => ⟨m - 1, by omega, by omega, p'⟩, fun x H' y => hs i x H H' l p (w.yields i H x H' l q y)⟩
  · have ei : i = n := by omega
    subst ei
    exact .inl ⟨w.stops H q, hd H p⟩
end Fb3
namespace Fb
open PySem PySem.Spec PyProof.Rows L2
variable {P : Program} {w : World} {K : PySem.W.Frag} {mg : Str → Option Value} {base : Heap} {C : Addr}
open Fb3
/-- a list of data at D -/
def LOf (K : PySem.W.Frag) (H : Hp) (D : Addr) (S : List Stand) : Prop := ∃ vs, H D = some (.lst vs) ∧ Paired (fun v s => Dp K H v (encS s)) vs S
theorem irange_succ (lo : Int) (k : Nat) : irange lo (k + 1) = irange lo k ++ [lo + (k : Int)] := by
  unfold irange
  rw [List.range_succ, List.map_append]
  rfl
theorem rgV_eq (a b : Int) : rgV a b = (irange a (b - a).toNat).map V.int := by
  unfold rgV irange
  rw [List.map_map]
  rfl
theorem irange_at {lo : Int} {k i : Nat} (h : i < k) : (irange lo k)[i]? = some (lo + (i : Int)) := by
  unfold irange
  rw [List.getElem?_map, List.getElem?_range h]
  rfl
def rowB (n : Net) (x y : Int) (k : Nat) : List Stand := (irange (-n.clocks) k).map fun o => (x, y, o)
def rowA (n : Net) (x : Int) (j : Nat) : List Stand := (irange 0 j).flatMap fun y => rowB n x y (n.clocks + 1 - -n.clocks).toNat
def rows (n : Net) (i : Nat) : List Stand := (irange 0 i).flatMap fun x => rowA n x n.high.toNat
theorem rows_all (n : Net) : rows n n.wide.toNat = allS n := rfl
theorem rowB_succ (n : Net) (x y : Int) (k : Nat) : rowB n x y (k + 1) = rowB n x y k ++ [(x, y, -n.clocks + (k : Int))] := by
  unfold rowB
  rw [irange_succ, List.map_append]
  rfl
theorem rowA_succ (n : Net) (x : Int) (j : Nat) : rowA n x (j + 1) = rowA n x j ++ rowB n x (0 + (j : Int)) (n.clocks + 1 - -n.clocks).toNat := by
  unfold rowA
  rw [irange_succ, List.flatMap_append]
  simp
theorem rows_succ (n : Net) (i : Nat) : rows n (i + 1) = rows n i ++ rowA n (0 + (i : Int)) n.high.toNat := by
  unfold rows
  rw [irange_succ, List.flatMap_append]
  simp
def spAll (K : PySem.W.Frag) : Sp := fun vs H Q _ => ∃ (nv : V) (n : Net), vs = [nv] ∧ Dp K H nv (encN n) ∧ NetOk n ∧ ∀ H' r, Ex true [] H H' → Dp K H' r (encT (allS n)) → Q r H'
theorem sc_all : FnScope ["net", "offs", "x", "y", "off"] ["net"] (defScope s_all_stands) := ⟨rfl, rfl, rfl, by decide +kernel, rfl, by decide +kernel, by decide +kernel⟩
theorem c_all (T : Txt K mg C) : Cl P w K mg base 1 "all_stands" (spAll K) := by
  refine T.d_all_stands.mk (ps := ["net"]) (fun _ _ _ _ _ _ us hl => match us, hl with | [_], _ => rfl) sc_all (fun vs H Q E h => ?_) fun f cdv A outer s H vs Q E hr h => ?_
  · obtain ⟨v, u, rfl, _⟩ := h
    rfl
  · obtain ⟨v, n, rfl, hv, ok, k⟩ := h
    obtain ⟨a, b, hs, rfl, ha, hb, hp⟩ := hv.n
    have w0 := ok.w0
    have w1 := ok.w1
    have h0 := ok.h0
    have h1 := ok.h1
    have c0 := ok.c0
    have c1 := ok.c1
    have nd := sc_all.nd
    refine ⟨_, pss_cons (ps_set (i := 1) nd rfl (Or.inr rfl) (pe_listRg rfl (by rfl) T.b_list (prg_2 (by rfl) T.b_range (pe_un un_neg (pe_ix ix_tup (pv 0) pe_int (fun _ _ => rfl))) (pe_op op_add (pe_ix ix_tup (pv 0) pe_int (fun _ _ => rfl)) pe_int))))
      (pss_one (ps_ret (pe_callTy call_tuple_of (by rfl) T.b_tuple (by decide +kernel) (pa_cons
        (pe_lc3 (own := [("x", 2), ("y", 3), ("off", 4)]) (vs1 := [3, 4]) (vs2 := [4]) (g0 := gName 2) (g1 := gName 3) (g2 := gName 4) (wi1 := iRng1 (tCons (tOp (rIxT K) (tVar 0) (tC (.int 1))) tNil)) (wi2 := iList K (tVar 1))
          (te := tTup (tCons (tVar 2) (tCons (tVar 3) (tCons (tVar 4) tNil)))) rfl nd (pi_range1 (by rfl) T.b_range (pa_cons (pe_ix ix_tup (pv 0) pe_int (fun _ _ => rfl)) pa_nil))
          (blkOk_by (N := ["net", "offs", "x", "y", "off"]) (sc := defScope s_all_stands) (by decide +kernel)) (by decide) (by decide)
          (fun _ _ _ _ _ => pg_name (i := 2) nd rfl (Or.inl rfl)) (fun _ _ _ _ _ => pi_range1 (by rfl) T.b_range (pa_cons (pe_ix ix_tup (pv 0) pe_int (fun _ _ => rfl)) pa_nil))
          (fun _ _ _ _ _ => pg_name (i := 3) nd rfl (Or.inl rfl)) (fun _ _ _ _ _ => pi_list (pv 1)) (fun _ _ _ _ _ => pg_name (i := 4) nd rfl (Or.inl rfl))
          (fun _ _ _ _ _ => pe_tup (pa_cons (pv 2) (pa_cons (pv 3) (pa_cons (pv 4) pa_nil))))) pa_nil)))), ?_⟩
    refine ⟨_, rfl, a, _, _, _, rfl, rfl, ha, at2, _, rfl, _, rfl, a, _, _, _, rfl, rfl, ha, at2, _, _, rfl, rfl, ?_⟩
    refine ⟨_, _, rfl, rfl, ⟨by omega, by omega, by omega, by omega, by omega⟩, fun q nq => ?_⟩
    rw [rgV_eq]
    obtain ⟨m, em⟩ : ∃ m, m = (n.clocks + 1 - -n.clocks).toNat := ⟨_, rfl⟩
    rw [← em]
    have m5 : m ≤ 5 := by omega
    have x1 : Ex true [] H (upd H q (.lst ((irange (-n.clocks) m).map V.int))) := .one nq
    refine ⟨_, rfl, a, _, _, _, rfl, rfl, x1.sqT ha, at0, _, rfl, by omega, by omega, fun D hD => ?_⟩
    have nqD : q ≠ D := ne_of_none upd_same hD
    refine loop_it walk_range (fun i H' => Ex true [] H H' ∧ H' q = some (.lst ((irange (-n.clocks) m).map V.int)) ∧ LOf K H' D (rows n i) ∧ (rows n i).length ≤ i * 25)
      ⟨x1.new hD, by rw [upd_ne nqD, upd_same], ⟨[], upd_same, .nil⟩, Nat.zero_le _⟩ (fun _ _ _ _ => True.intro) ?_ ?_
    · rintro i x H1 H2 hi ⟨e1, q1, ⟨vs1, l1, p1⟩, n1⟩ ⟨rfl, rfl⟩
      have hi5 : i < 5 := by omega
      refine ⟨rfl, _, rfl, a, _, _, _, rfl, rfl, e1.sqT ha, at1, _, rfl, by omega, by omega, ?_⟩
      refine loop_it walk_range (fun j H' => Ex true [] H H' ∧ H' q = some (.lst ((irange (-n.clocks) m).map V.int)) ∧ LOf K H' D (rows n i ++ rowA n (0 + (i : Int)) j) ∧ (rows n i ++ rowA n (0 + (i : Int)) j).length ≤ i * 25 + j * 5)
        ⟨e1, q1, ⟨vs1, l1, by simpa [rowA, irange] using p1⟩, by simpa [rowA, irange] using n1⟩ (fun _ _ _ _ => True.intro) ?_ ?_
      · rintro j y H3 H4 hj ⟨e3, q3, ⟨vs3, l3, p3⟩, n3⟩ ⟨rfl, rfl⟩
        have hj5 : j < 5 := by omega
        refine ⟨rfl, _, rfl, q, rfl, ⟨_, .of q3⟩, ?_⟩
        refine loop_it walk_list (fun k H' => Ex true [] H H' ∧ H' q = some (.lst ((irange (-n.clocks) m).map V.int)) ∧ LOf K H' D (rows n i ++ rowA n (0 + (i : Int)) j ++ rowB n (0 + (i : Int)) (0 + (j : Int)) k) ∧ (rows n i ++ rowA n (0 + (i : Int)) j ++ rowB n (0 + (i : Int)) (0 + (j : Int)) k).length ≤ i * 25 + j * 5 + k)
          ⟨e3, q3, ⟨vs3, l3, by simpa [rowB, irange] using p3⟩, by simpa [rowB, irange] using n3⟩ (fun _ _ _ ⟨_, z, _⟩ => .of z) ?_ ?_
        · rintro k z H5 H6 hk ⟨e5, q5, ⟨vs5, l5, p5⟩, n5⟩ ⟨rfl, hz⟩
          rw [List.length_map, irange_length] at hk
          have hz' : z = .int (-n.clocks + (k : Int)) := by
            rw [List.getElem?_map, irange_at hk] at hz
            exact (Option.some.inj hz).symm
          subst hz'
          refine ⟨rfl, _, rfl, _, rfl, _, rfl, (by show 3 ≤ sizeLine; decide), fun p np => ?_⟩
          have nDp : D ≠ p := ne_of_none l5 np
          have nqp : q ≠ p := ne_of_none q5 np
          have x6 : Ex true [] H6 (upd H6 p (.tup [.int (0 + (i : Int)), .int (0 + (j : Int)), .int (-n.clocks + (k : Int))])) := .one np
          have x7 : Ex true [D] H6 (upd (upd H6 p (.tup [.int (0 + (i : Int)), .int (0 + (j : Int)), .int (-n.clocks + (k : Int))])) D (.lst (vs5 ++ [.ref p]))) := (Ex.nil x6).app (.inl (by simp)) (by rw [upd_ne nDp]; exact l5)
          refine ⟨vs5, by rw [upd_ne nDp]; exact l5, ?_, ?_, ?_, ?_, ?_⟩
          · rw [p5.length, sizeLine_eq]
            omega
          · exact (e5.trans x6).app (.inr (x1.nw hD)) (by rw [upd_ne nDp]; exact l5)
          · rw [upd_ne nqD, upd_ne nqp]
            exact q5
          · refine ⟨_, upd_same, ?_⟩
            rw [rowB_succ, ← List.append_assoc]
            refine Paired.snoc (x7.pr tt_S p5) (Dp.ofS (.of ?_))
            rw [upd_ne (Ne.symm nDp), upd_same]
          · rw [rowB_succ, ← List.append_assoc, List.length_append, List.length_singleton]
            omega
        · rintro H5 ⟨e5, q5, l5, n5⟩
          rw [List.length_map, irange_length] at l5 n5
          rw [rowA_succ, ← List.append_assoc, ← em]
          exact ⟨e5, q5, l5, by omega⟩
      · rintro H3 ⟨e3, q3, l3, n3⟩
        rw [rows_succ]
        exact ⟨e3, q3, l3, by have : n.high.toNat ≤ 5 := by omega
                              omega⟩
    · rintro H1 ⟨e1, q1, ⟨vs1, l1, p1⟩, n1⟩
      rw [rows_all] at p1
      refine ⟨D, vs1, rfl, .inl ⟨.of l1, fun l nl => ?_⟩⟩
      have x2 : Ex true [] H1 (upd H1 l (.tup vs1)) := .one nl
      exact k _ _ (e1.trans x2) (Dp.ofSeq (.of upd_same) (x2.pr tt_S p1))
end Fb
namespace Fb
open PySem PySem.Spec PyProof.Rows L2
variable {P : Program} {w : World} {K : PySem.W.Frag} {mg : Str → Option Value} {base : Heap} {C : Addr}
/-! ### stands with one of their numbers otherwise -/
def keyS (s : Stand) : List Key := [.inl s.1, .inl s.2.1, .inl s.2.2]
theorem keyS_inj {s t : Stand} (h : keyS s = keyS t) : s = t := by
  obtain ⟨a, b, c⟩ := s
  obtain ⟨a', b', c'⟩ := t
  unfold keyS at h
  injection h with h1 h
  injection h with h2 h
  injection h with h3 _
  injection h1 with h1
  injection h2 with h2
  injection h3 with h3
  simp only at h1 h2 h3
  rw [h1, h2, h3]
def addS (S : List Stand) (s : Stand) : List Stand := if s ∈ S then S else S ++ [s]
theorem mem_addS {S : List Stand} {s t : Stand} : t ∈ addS S s ↔ t ∈ S ∨ t = s := by
  unfold addS
  split
  · rename_i h
    constructor
    · exact .inl
    · rintro (h' | rfl)
      · exact h'
      · exact h
  · simp
theorem nodup_addS {S : List Stand} {s : Stand} (h : S.Nodup) : (addS S s).Nodup := by
  unfold addS
  split
  · exact h
  · rename_i hn
    rw [List.nodup_append]
    exact ⟨h, by simp, fun a ha b hb e => by simp at hb; subst hb; subst e; exact hn ha⟩
theorem length_addS {S : List Stand} {s : Stand} : (addS S s).length ≤ S.length + 1 := by
  unfold addS
  split
  · omega
  · simp
def ent (s : Stand) : List Key × V := (keyS s, .bl true)
theorem put_S (S : List Stand) (s : Stand) : putK (S.map ent) (keyS s) (.bl true) = (addS S s).map ent := by
  unfold putK addS
  have e : ((S.map ent).any fun kv => decide (kv.1 = keyS s)) = decide (s ∈ S) := by
    rw [List.any_map]
    by_cases h : s ∈ S
    · rw [decide_eq_true h]
      exact List.any_eq_true.mpr ⟨s, h, by simp [ent]⟩
    · rw [decide_eq_false h]
      refine List.any_eq_false.mpr fun x hx => ?_
      simp only [Function.comp, ent, decide_eq_true_iff]
      intro q
      exact h (keyS_inj (of_decide_eq_true q) ▸ hx)
  rw [e]
  by_cases h : s ∈ S
  · rw [decide_eq_true h, if_pos rfl, if_pos h, List.map_map]
    refine List.map_congr_left fun x _ => ?_
    show (if keyS x = keyS s then (keyS x, V.bl true) else (keyS x, V.bl true)) = (keyS x, V.bl true)
    split <;> rfl
  · rw [decide_eq_false h, if_neg (by simp), if_neg h, List.map_append]
    rfl
/-- a dict with these stands as its keys -/
abbrev DOf (H : Hp) (d : Addr) (S : List Stand) : Prop := H d = some (.dT (S.map ent))
def getc (at_ : Nat) (s : Stand) : Int := match at_ with
  | 0 => s.1
  | 1 => s.2.1
  | _ => s.2.2
def setc (at_ : Nat) (s : Stand) (v : Int) : Stand := match at_ with
  | 0 => (v, s.2.1, s.2.2)
  | 1 => (s.1, v, s.2.2)
  | _ => (s.1, s.2.1, v)
def Moved (at_ : Nat) (by_ lo hi : Int) (s t : Stand) : Prop := ∃ v, lo ≤ v ∧ v ≤ hi ∧ -by_ ≤ v - getc at_ s ∧ v - getc at_ s ≤ by_ ∧ t = setc at_ s v
abbrev rMx : List V → Hp → VK → Prop := fun xs H Q => ∃ i j : Int, xs = [.int i, .int j] ∧ Q (.int (if j > i then j else i)) H
abbrev rMn : List V → Hp → VK → Prop := fun xs H Q => ∃ i j : Int, xs = [.int i, .int j] ∧ Q (.int (if j < i then j else i)) H
abbrev rPl : R2 := rI0 fun i j => .int (i + j)
abbrev rMi : R2 := rI0 fun i j => .int (i - j)
def tKey (K : PySem.W.Frag) : TE := tOp (rCatA K) (tOp (rCatA K) (tSl (rSlA K) (tVar 5) tNoPart (tPart (tVar 1))) (tTup (tCons (tVar 6) tNil))) (tSl (rSlA K) (tVar 5) (tPart (tOp rPl (tVar 1) (tC (.int 1)))) tNoPart)
def tInner (K : PySem.W.Frag) : TS := tFor (iRng2 (tCons (tCB rMx (tCons (tOp (rIxT K) (tVar 3) (tC (.int 0))) (tCons (tOp rMi (tOp (rIxT K) (tVar 5) (tVar 1)) (tVar 2)) tNil)))
  (tCons (tOp rPl (tCB rMn (tCons (tOp (rIxT K) (tVar 3) (tC (.int 1))) (tCons (tOp rPl (tOp (rIxT K) (tVar 5) (tVar 1)) (tVar 2)) tNil))) (tC (.int 1))) tNil))) (gName 6) (sDPut (tVar 4) (tKey K) (tC (.bl true)))
theorem key_reads {K : PySem.W.Frag} {H : Hp} {σ : L2.St} {a : Addr} {s : Stand} {at_ : Nat} {v : Int} {Q : VK} (h3 : at_ ≤ 2) (h1 : σ[1]? = some (some (.int (at_ : Int)))) (h5 : σ[5]? = some (some (.ref a))) (h6 : σ[6]? = some (some (.int v))) (ha : SqT K H a [.int s.1, .int s.2.1, .int s.2.2])
    (k : ∀ p H', Ex true [] H H' → H' p = some (.tup ((keyS (setc at_ s v)).map kV)) → Q (.ref p) H') : tKey K σ H Q := by
  have z1 : (1 : Nat) ≤ sizeLine := by decide
  have z3 : (3 : Nat) ≤ sizeLine := by decide
  match at_, h3, h1, k with
  | 0, _, h1, k =>
    refine ⟨_, h5, _, h1, 0, rfl, a, _, rfl, ha, fun z => absurd (show (0 : Nat) = 3 from z.2) (by decide), fun _ p1 n1 => ?_⟩
    have e1 : Ex true [] H (upd H p1 (.tup [])) := .one n1
    refine ⟨_, h6, z1, fun p2 n2 => ?_⟩
    have e2 : Ex true [] H (upd (upd H p1 (.tup [])) p2 (.tup [.int v])) := e1.new n2
    refine ⟨p1, p2, [], [.int v], rfl, rfl, .of (by rw [upd_ne (ne_of_none upd_same n2)]; exact upd_same), .of upd_same, z1, fun _ => ?_, fun z => absurd rfl z, fun z => absurd rfl z⟩
    refine ⟨_, h5, _, h1, _, _, rfl, rfl, _, rfl, a, _, rfl, e2.sqT ha, fun z => absurd (show (1 : Nat) = 0 from z.1) (by decide), fun _ p3 n3 => ?_⟩
    have e3 : Ex true [] H (upd (upd (upd H p1 (.tup [])) p2 (.tup [.int v])) p3 (.tup [.int s.2.1, .int s.2.2])) := e2.new n3
    refine ⟨p2, p3, [.int v], [.int s.2.1, .int s.2.2], rfl, rfl, .of (by rw [upd_ne (ne_of_none upd_same n3)]; exact upd_same), .of upd_same, z3, fun z => (by cases z), fun _ z => (by cases z), fun _ _ p4 n4 => ?_⟩
    exact k p4 _ (e3.new n4) upd_same
  | 1, _, h1, k =>
    refine ⟨_, h5, _, h1, 1, rfl, a, _, rfl, ha, fun z => absurd (show (1 : Nat) = 3 from z.2) (by decide), fun _ p1 n1 => ?_⟩
    have e1 : Ex true [] H (upd H p1 (.tup [.int s.1])) := .one n1
    refine ⟨_, h6, z1, fun p2 n2 => ?_⟩
    have e2 : Ex true [] H (upd (upd H p1 (.tup [.int s.1])) p2 (.tup [.int v])) := e1.new n2
    refine ⟨p1, p2, [.int s.1], [.int v], rfl, rfl, .of (by rw [upd_ne (ne_of_none upd_same n2)]; exact upd_same), .of upd_same, (by show (2 : Nat) ≤ sizeLine; decide), fun z => (by cases z), fun _ z => (by cases z), fun _ _ p3 n3 => ?_⟩
    have e3 : Ex true [] H (upd (upd (upd H p1 (.tup [.int s.1])) p2 (.tup [.int v])) p3 (.tup [.int s.1, .int v])) := e2.new n3
    refine ⟨_, h5, _, h1, _, _, rfl, rfl, _, rfl, a, _, rfl, e3.sqT ha, fun z => absurd (show (2 : Nat) = 0 from z.1) (by decide), fun _ p4 n4 => ?_⟩
    have e4 : Ex true [] H (upd (upd (upd (upd H p1 (.tup [.int s.1])) p2 (.tup [.int v])) p3 (.tup [.int s.1, .int v])) p4 (.tup [.int s.2.2])) := e3.new n4
    refine ⟨p3, p4, [.int s.1, .int v], [.int s.2.2], rfl, rfl, .of (by rw [upd_ne (ne_of_none upd_same n4)]; exact upd_same), .of upd_same, z3, fun z => (by cases z), fun _ z => (by cases z), fun _ _ p5 n5 => ?_⟩
    exact k p5 _ (e4.new n5) upd_same
  | 2, _, h1, k =>
    refine ⟨_, h5, _, h1, 2, rfl, a, _, rfl, ha, fun z => absurd (show (2 : Nat) = 3 from z.2) (by decide), fun _ p1 n1 => ?_⟩
    have e1 : Ex true [] H (upd H p1 (.tup [.int s.1, .int s.2.1])) := .one n1
    refine ⟨_, h6, z1, fun p2 n2 => ?_⟩
    have e2 : Ex true [] H (upd (upd H p1 (.tup [.int s.1, .int s.2.1])) p2 (.tup [.int v])) := e1.new n2
    refine ⟨p1, p2, [.int s.1, .int s.2.1], [.int v], rfl, rfl, .of (by rw [upd_ne (ne_of_none upd_same n2)]; exact upd_same), .of upd_same, z3, fun z => (by cases z), fun _ z => (by cases z), fun _ _ p3 n3 => ?_⟩
    have e3 : Ex true [] H (upd (upd (upd H p1 (.tup [.int s.1, .int s.2.1])) p2 (.tup [.int v])) p3 (.tup [.int s.1, .int s.2.1, .int v])) := e2.new n3
    refine ⟨_, h5, _, h1, _, _, rfl, rfl, _, rfl, a, _, rfl, e3.sqT ha, fun z => absurd (show (3 : Nat) = 0 from z.1) (by decide), fun _ p4 n4 => ?_⟩
    have e4 : Ex true [] H (upd (upd (upd (upd H p1 (.tup [.int s.1, .int s.2.1])) p2 (.tup [.int v])) p3 (.tup [.int s.1, .int s.2.1, .int v])) p4 (.tup [])) := e3.new n4
    have q3 : (upd (upd (upd (upd H p1 (.tup [.int s.1, .int s.2.1])) p2 (.tup [.int v])) p3 (.tup [.int s.1, .int s.2.1, .int v])) p4 (.tup [])) p3 = some (.tup [.int s.1, .int s.2.1, .int v]) := by
      rw [upd_ne (ne_of_none upd_same n4)]
      exact upd_same
    refine ⟨p3, p4, [.int s.1, .int s.2.1, .int v], [], rfl, rfl, .of q3, .of upd_same, z3, fun z => (by cases z), fun _ _ => ?_, fun _ z => absurd rfl z⟩
    exact k p3 _ e4 q3
theorem maxI_or (i j : Int) : (maxI i j = i ∧ j ≤ i) ∨ (maxI i j = j ∧ i ≤ j) := by
  unfold maxI
  split <;> omega
theorem minI_or (i j : Int) : (minI i j = i ∧ i ≤ j) ∨ (minI i j = j ∧ j ≤ i) := by
  unfold minI
  split <;> omega
theorem getc_at {at_ : Nat} (h : at_ ≤ 2) (s : Stand) : atI ([.int s.1, .int s.2.1, .int s.2.2] : List V) (at_ : Int) = some (.int (getc at_ s)) := by
  match at_, h with
  | 0, _ => exact at0
  | 1, _ => exact at1
  | 2, _ => exact at2
theorem spread_step {K : PySem.W.Frag} {Hb H1 : Hp} {sv : V} {at_ : Nat} {by_ lo hi : Int} {bp d a : Addr} {z6 : Option V} {S1 : List Stand} {s : Stand} {D : Ends} (h3 : at_ ≤ 2) (hby : 0 ≤ by_ ∧ by_ ≤ 1000) (hlo : -1000 ≤ lo ∧ lo ≤ 1000) (hhi : -1000 ≤ hi ∧ hi ≤ 1000) (hc : -1000 ≤ getc at_ s ∧ getc at_ s ≤ 1000)
    (e1 : Ex true [] Hb H1) (nd : Nw true Hb d) (hd : DOf H1 d S1) (hs : SqT K H1 a [.int s.1, .int s.2.1, .int s.2.2]) (hb : SqT K H1 bp [.int lo, .int hi]) (n1 : S1.Nodup) (hz : S1.length + (hi - lo + 1).toNat ≤ 16000000)
    (k : ∀ H2 S2 z, Ex true [] Hb H2 → DOf H2 d S2 → S2.Nodup → (∀ t, t ∈ S2 ↔ t ∈ S1 ∨ Moved at_ by_ lo hi s t) → S2.length ≤ S1.length + (hi - lo + 1).toNat → D.nx [some sv, some (.int (at_ : Int)), some (.int by_), some (.ref bp), some (.ref d), some (.ref a), z] H2) :
    tInner K D [some sv, some (.int (at_ : Int)), some (.int by_), some (.ref bp), some (.ref d), some (.ref a), z6] H1 := by
  have mo := maxI_or lo (getc at_ s - by_)
  have mi := minI_or hi (getc at_ s + by_)
  refine ⟨_, rfl, bp, _, _, _, rfl, rfl, hb, at0, _, rfl, _, rfl, a, _, _, _, rfl, rfl, hs, getc_at h3 s, _, rfl, _, _, rfl, rfl, _, _, rfl, ?_⟩
  refine ⟨_, rfl, bp, _, _, _, rfl, rfl, hb, at1, _, rfl, _, rfl, a, _, _, _, rfl, rfl, hs, getc_at h3 s, _, rfl, _, _, rfl, rfl, _, _, rfl, _, _, rfl, rfl, ?_⟩
  refine ⟨maxI lo (getc at_ s - by_), minI hi (getc at_ s + by_) + 1, rfl, ⟨by omega, by omega, by omega, by omega⟩, ?_⟩
  obtain ⟨i0, ei⟩ : ∃ i0, i0 = maxI lo (getc at_ s - by_) := ⟨_, rfl⟩
  obtain ⟨j0, ej⟩ : ∃ j0, j0 = minI hi (getc at_ s + by_) + 1 := ⟨_, rfl⟩
  rw [← ei, ← ej]
  rw [← ei] at mo
  refine for_range (lo := i0) (n := (j0 - i0).toNat) (fun j σ' H2 => ∃ z S2, σ' = [some sv, some (.int (at_ : Int)), some (.int by_), some (.ref bp), some (.ref d), some (.ref a), z] ∧ Ex true [] Hb H2 ∧ Ex true [d] H1 H2 ∧ DOf H2 d S2 ∧ S2.Nodup ∧
      (∀ t, t ∈ S2 ↔ t ∈ S1 ∨ ∃ j' : Nat, j' < j ∧ t = setc at_ s (i0 + (j' : Int))) ∧ S2.length ≤ S1.length + j)
    ⟨z6, S1, rfl, e1, .refl, hd, n1, fun t => ⟨.inl, fun q => q.elim id fun ⟨_, h, _⟩ => absurd h (Nat.not_lt_zero _)⟩, Nat.le_refl _⟩ ?_ ?_
  · rintro j σ' H2 hj ⟨z, S2, rfl, e2, e12, d2, n2, m2, l2⟩
    refine ⟨_, rfl, key_reads h3 rfl rfl rfl (e12.sqT hs) fun p H3 e3 hp => ?_⟩
    have hd3 : DOf H3 d S2 := e3.keep d _ (by simp) (.inl rfl) d2
    refine ⟨d, _, rfl, DPut.t hd3 hp (by rw [List.length_map, sizeLine_eq]; omega), ?_⟩
    rw [put_S]
    have im : ∀ u, H3 d = some u → imm true u = false := fun u hu => by
      rw [hd3] at hu
      cases hu
      rfl
    refine ⟨_, addS S2 (setc at_ s (i0 + (j : Int))), rfl, (e2.trans e3).put (.inr nd) im, (e12.trans (Ex.nil e3)).put (.inl (by simp)) im, upd_same, nodup_addS n2, fun t => ?_, Nat.le_trans length_addS (by omega)⟩
    rw [mem_addS, m2]
    constructor
    · rintro ((q | ⟨j', q, e⟩) | e)
      · exact .inl q
      · exact .inr ⟨j', by omega, e⟩
      · exact .inr ⟨j, by omega, e⟩
    · rintro (q | ⟨j', q, e⟩)
      · exact .inl (.inl q)
      · by_cases ejj : j' = j
        · subst ejj
          exact .inr e
        · exact .inl (.inr ⟨j', by omega, e⟩)
  · rintro σ' H2 ⟨z, S2, rfl, e2, e12, d2, n2, m2, l2⟩
    refine k H2 S2 z e2 d2 n2 (fun t => ?_) (by omega)
    rw [m2]
    constructor
    · rintro (q | ⟨j', q, e⟩)
      · exact .inl q
      · exact .inr ⟨i0 + (j' : Int), by omega, by omega, by omega, by omega, e⟩
    · rintro (q | ⟨v, q1, q2, q3, q4, e⟩)
      · exact .inl q
      · exact .inr ⟨(v - i0).toNat, by omega, by rw [e]; congr 1; omega⟩
/-- the stands that are spread: a tuple of them, or a dict whose keys they are -/
def Src (K : PySem.W.Frag) (H : Hp) (v : V) (S : List Stand) : Prop := Dp K H v (encT S) ∨ ∃ d, v = .ref d ∧ DOf H d S
def spSpread (K : PySem.W.Frag) : Sp := fun vs H Q _ => ∃ (sv : V) (at_ : Nat) (by_ lo hi : Int) (bp : Addr) (S : List Stand), vs = [sv, .int (at_ : Int), .int by_, .ref bp] ∧ Src K H sv S ∧ SqT K H bp [.int lo, .int hi] ∧ at_ ≤ 2 ∧ (0 ≤ by_ ∧ by_ ≤ 1000) ∧ (-1000 ≤ lo ∧ lo ≤ 1000) ∧ (-1000 ≤ hi ∧ hi ≤ 1000) ∧
  (∀ s ∈ S, -1000 ≤ getc at_ s ∧ getc at_ s ≤ 1000) ∧ (S.length + 1) * (hi - lo + 1).toNat ≤ 16000000 ∧
  ∀ H' d S', Ex true [] H H' → DOf H' d S' → S'.Nodup → (∀ t, t ∈ S' ↔ ∃ s ∈ S, Moved at_ by_ lo hi s t) → S'.length ≤ S.length * (hi - lo + 1).toNat → Q (.ref d) H'
theorem sc_spread : FnScope ["stands", "at", "by", "bounds", "found", "stand", "number"] ["stands", "at", "by", "bounds"] (defScope s_spread) := ⟨rfl, rfl, rfl, by decide +kernel, rfl, by decide +kernel, by decide +kernel⟩
theorem mem_take_succ {S : List Stand} {i : Nat} {s : Stand} (h : S[i]? = some s) {p : Stand → Prop} : (∃ u ∈ S.take (i + 1), p u) ↔ (∃ u ∈ S.take i, p u) ∨ p s := by
  rw [List.take_add_one, h]
  constructor
  · rintro ⟨u, hu, q⟩
    rcases List.mem_append.mp hu with hu | hu
    · exact .inl ⟨u, hu, q⟩
    · have : u = s := by simpa using hu
      exact .inr (this ▸ q)
  · rintro (⟨u, hu, q⟩ | q)
    · exact ⟨u, List.mem_append_left _ hu, q⟩
    · exact ⟨s, List.mem_append_right _ (by simp), q⟩
theorem c_spread (T : Txt K mg C) : Cl P w K mg base 1 "spread" (spSpread K) := by
  refine T.d_spread.mk (ps := ["stands", "at", "by", "bounds"]) (fun _ _ _ _ _ _ us hl => match us, hl with | [_, _, _, _], _ => rfl) sc_spread (fun vs H Q E h => ?_) fun f cdv A outer s H vs Q E hr h => ?_
  · obtain ⟨sv, at_, by_, lo, hi, bp, S, rfl, _⟩ := h
    rfl
  · obtain ⟨sv, at_, by_, lo, hi, bp, S, rfl, src, hb, h3, hby, hlo, hhi, hcs, hz, k⟩ := h
    have nd := sc_spread.nd
    obtain ⟨M, eM⟩ : ∃ M, M = (hi - lo + 1).toNat := ⟨_, rfl⟩
    rw [← eM] at hz
    have bound : ∀ i l, i < S.length → l ≤ i * M → l + M ≤ 16000000 := fun i l h1 h2 => by
      have q := Nat.mul_le_mul_right M (show i + 1 ≤ S.length + 1 by omega)
      rw [Nat.succ_mul] at q
      omega
    have up : ∀ i l, l ≤ i * M + M → l ≤ (i + 1) * M := fun i l h => by rw [Nat.succ_mul]; exact h
    rcases src with src | ⟨d0, rfl, hd0⟩
    · obtain ⟨a0, xs, rfl, ha0, hp⟩ := src.seq
      refine ⟨_, pss_cons (ps_set (i := 4) nd rfl (Or.inl rfl) pe_dnewT) (pss_cons (ps_for PassesOwn.never rfl (pi_tup (pv 0)) (pg_name (i := 5) nd rfl (Or.inl rfl)) (pss_one (ps_for PassesOwn.never rfl (pi_range2 (by rfl) T.b_range (pa_cons
        (pe_callB (call_max2 rfl) (by rfl) T.b_max (by decide +kernel) (pa_cons (pe_ix ix_tup (pv 3) pe_int (fun _ _ => rfl)) (pa_cons (pe_op op_sub (pe_ix ix_tup (pv 5) (pv 1) (fun _ _ => rfl)) (pv 2)) pa_nil))) (pa_cons
        (pe_op op_add (pe_callB (call_min2 rfl) (by rfl) T.b_min (by decide +kernel) (pa_cons (pe_ix ix_tup (pv 3) pe_int (fun _ _ => rfl)) (pa_cons (pe_op op_add (pe_ix ix_tup (pv 5) (pv 1) (fun _ _ => rfl)) (pv 2)) pa_nil))) pe_int) pa_nil)))
      (pg_name (i := 6) nd rfl (Or.inl rfl)) (pss_one (ps_dput (hu_of hr) (pv 4) (pe_op op_catA (pe_op op_catA (pe_slice sl_tupA (pv 5) po_none (po_some (pv 1))) (pe_tup (pa_cons (pv 6) pa_nil))) (pe_slice sl_tupA (pv 5) (po_some (pe_op op_add (pv 1) pe_int)) po_none)) pe_bl rfl))))) (pss_one (ps_ret (pv 4)))), ?_⟩
      intro d hd
      have e0 : Ex true [] H (upd H d (.dT [])) := .one hd
      refine ⟨_, rfl, a0, rfl, ⟨_, e0.sqT ha0⟩, for_it (walk_tup (K := K) (a := a0) (xs := xs)) (fun i σ H' => ∃ z5 z6 S', σ = [some (.ref a0), some (.int (at_ : Int)), some (.int by_), some (.ref bp), some (.ref d), z5, z6] ∧ Ex true [] H H' ∧ DOf H' d S' ∧ S'.Nodup ∧
          (∀ t, t ∈ S' ↔ ∃ s ∈ S.take i, Moved at_ by_ lo hi s t) ∧ S'.length ≤ i * M)
        ⟨none, none, [], rfl, e0, upd_same, .nil, fun t => by simp, Nat.zero_le _⟩ (fun i σ H' _ ⟨_, _, _, _, e, _⟩ => e.sqT ha0) ?_ ?_⟩
      · rintro i x σ H1 H2 hi' ⟨z5, z6, S1, rfl, e1, d1, n1, m1, l1⟩ ⟨rfl, hx⟩
        obtain ⟨s, hs, ds⟩ := hp.at_ hx
        obtain ⟨a, rfl, ha⟩ := Dp.s ds
        have hlen := hp.length
        refine spread_step h3 hby hlo hhi (hcs s (List.mem_of_getElem? hs)) e1 (.of hd) d1 (e1.sqT ha) (e1.sqT hb) n1 (by rw [← eM]; exact bound i _ (by omega) l1) fun H3 S3 z e3 d3 n3 m3 l3 => ?_
        rw [← eM] at l3
        exact ⟨_, z, S3, rfl, e3, d3, n3, fun t => by rw [m3, m1, mem_take_succ hs], up i _ (by omega)⟩
      · rintro σ H1 ⟨z5, z6, S1, rfl, e1, d1, n1, m1, l1⟩
        rw [hp.length] at m1 l1
        rw [List.take_length] at m1
        exact ⟨_, rfl, k H1 d S1 e1 d1 n1 m1 (by rw [← eM]; exact l1)⟩
    · refine ⟨_, pss_cons (ps_set (i := 4) nd rfl (Or.inl rfl) pe_dnewT) (pss_cons (ps_lock (ps_for PassesOwn.never rfl (pi_keys (pv 0)) (pg_name (i := 5) nd rfl (Or.inl rfl)) (pss_one (ps_for PassesOwn.never rfl (pi_range2 (by rfl) T.b_range (pa_cons
        (pe_callB (call_max2 rfl) (by rfl) T.b_max (by decide +kernel) (pa_cons (pe_ix ix_tup (pv 3) pe_int (fun _ _ => rfl)) (pa_cons (pe_op op_sub (pe_ix ix_tup (pv 5) (pv 1) (fun _ _ => rfl)) (pv 2)) pa_nil))) (pa_cons
        (pe_op op_add (pe_callB (call_min2 rfl) (by rfl) T.b_min (by decide +kernel) (pa_cons (pe_ix ix_tup (pv 3) pe_int (fun _ _ => rfl)) (pa_cons (pe_op op_add (pe_ix ix_tup (pv 5) (pv 1) (fun _ _ => rfl)) (pv 2)) pa_nil))) pe_int) pa_nil)))
      (pg_name (i := 6) nd rfl (Or.inl rfl)) (pss_one (ps_dput (hu_of hr) (pv 4) (pe_op op_catA (pe_op op_catA (pe_slice sl_tupA (pv 5) po_none (po_some (pv 1))) (pe_tup (pa_cons (pv 6) pa_nil))) (pe_slice sl_tupA (pv 5) (po_some (pe_op op_add (pv 1) pe_int)) po_none)) pe_bl rfl)))))) (pss_one (ps_ret (pv 4)))), ?_⟩
      intro d hd
      have e0 : Ex true [] H (upd H d (.dT [])) := .one hd
      have ndd : d0 ≠ d := ne_of_none hd0 hd
      refine ⟨d0, .dT (S.map ent), by rw [upd_ne ndd]; exact hd0, True.intro, fun od => ?_⟩
      obtain ⟨Hb, eHb⟩ : ∃ Hb : Hp, Hb = upd H d0 (.frz od (.dT (S.map ent))) := ⟨_, rfl⟩
      have fz : Hb d0 = some (.frz od (.dT (S.map ent))) := by rw [eHb]; exact upd_same
      have eb : upd (upd H d (.dT [])) d0 (.frz od (.dT (S.map ent))) = upd Hb d (.dT []) := by
        rw [eHb]
        funext c
        unfold upd
        by_cases c1 : c = d0 <;> by_cases c2 : c = d
        · exact absurd (c1.symm.trans c2) ndd
        · simp [c1, c2, ndd]
        · have : ¬ d = d0 := fun z => ndd z.symm
          simp [c2, this]
        · simp [c1, c2]
      rw [eb]
      have hdb : Hb d = none := by rw [eHb, upd_ne (Ne.symm ndd)]; exact hd
      have xb : Ex true [d0] H Hb := by
        rw [eHb]
        exact Ex.put .refl (.inl (by simp)) fun u hu => by rw [hd0] at hu; cases hu; rfl
      have hbb := xb.sqT hb
      have e1 : Ex true [] Hb (upd Hb d (.dT [])) := .one hdb
      refine ⟨_, rfl, d0, od, rfl, .inr ⟨_, e1.still d0 _ rfl fz, for_it (walk_keysT (d := d0) (o := od) (kvs := S.map ent)) (fun i σ H' => ∃ z5 z6 S', σ = [some (.ref d0), some (.int (at_ : Int)), some (.int by_), some (.ref bp), some (.ref d), z5, z6] ∧ Ex true [] Hb H' ∧ DOf H' d S' ∧ S'.Nodup ∧
          (∀ t, t ∈ S' ↔ ∃ s ∈ S.take i, Moved at_ by_ lo hi s t) ∧ S'.length ≤ i * M)
        ⟨none, none, [], rfl, e1, upd_same, .nil, fun t => by simp, Nat.zero_le _⟩ (fun i σ H' _ ⟨_, _, _, _, e, _⟩ => e.still d0 _ rfl fz) ?_ ?_⟩⟩
      · rintro i x σ H1 H2 hi' ⟨z5, z6, S1, rfl, e1, d1, n1, m1, l1⟩ ⟨rfl, kk, vv, q, hx, rfl, hq⟩
        rw [List.length_map] at hi'
        obtain ⟨s, hs⟩ : ∃ s, S[i]? = some s := ⟨_, List.getElem?_eq_getElem hi'⟩
        rw [List.getElem?_map, hs] at hx
        cases hx
        refine spread_step h3 hby hlo hhi (hcs s (List.mem_of_getElem? hs)) e1 (.of hdb) d1 (.of hq) (e1.sqT hbb) n1 (by rw [← eM]; exact bound i _ hi' l1) fun H3 S3 z e3 d3 n3 m3 l3 => ?_
        rw [← eM] at l3
        exact ⟨_, z, S3, rfl, e3, d3, n3, fun t => by rw [m3, m1, mem_take_succ hs], up i _ (by omega)⟩
      · rintro σ H1 ⟨z5, z6, S1, rfl, e1, d1, n1, m1, l1⟩
        rw [List.length_map] at m1 l1
        rw [List.take_length] at m1
        refine ⟨e1.still d0 _ rfl fz, _, rfl, k _ d S1 ⟨fun b o n kk q => ?_, fun b o i q => ?_⟩ (by show (upd H1 d0 (.dT (S.map ent))) d = _; rw [upd_ne (Ne.symm ndd)]; exact d1) n1 m1 (by rw [← eM]; exact l1)⟩
        · by_cases c : b = d0
          · subst c
            rw [hd0] at q
            cases q
            exact upd_same
          · rw [upd_ne c]
            exact e1.keep b o n kk (xb.keep b o (by simpa using c) kk q)
        · have c : b ≠ d0 := fun z => by
            subst z
            rw [hd0] at q
            cases q
            cases i
          rw [upd_ne c]
          exact e1.still b o i (xb.still b o i q)
end Fb
namespace Fb
open PySem PySem.Spec PyProof.Rows L2
variable {P : Program} {w : World} {K : PySem.W.Frag} {mg : Str → Option Value} {base : Heap} {C : Addr}
def spWidened (K : PySem.W.Frag) : Sp := fun vs H Q _ => ∃ (nv rv sv : V) (n : Net) (r : Rule) (S : List Stand) (t : Int), vs = [nv, rv, sv, .int t] ∧ Dp K H nv (encN n) ∧ Dp K H rv (encR r) ∧ Dp K H sv (encT S) ∧ NetOk n ∧ RuleOk r ∧ (∀ s ∈ S, inNet n s) ∧ S.length ≤ 125 ∧ (1 ≤ t ∧ t ≤ 60) ∧
  ∀ H' d S', Ex true [] H H' → DOf H' d S' → S'.Nodup → (∀ u, u ∈ S' ↔ inNet n u ∧ ∃ s ∈ S, reach r t s u) → S'.length ≤ 15625 → Q (.ref d) H'
theorem sc_widened : FnScope ["net", "rule", "stands", "ticks", "by", "drift", "found"] ["net", "rule", "stands", "ticks"] (defScope s_widened) := ⟨rfl, rfl, rfl, by decide +kernel, rfl, by decide +kernel, by decide +kernel⟩
theorem widened_mem {n : Net} {r : Rule} {t : Int} {S S1 S2 S3 : List Stand} (m1 : ∀ u, u ∈ S1 ↔ ∃ s ∈ S, Moved 0 (r.1 * t) 0 (n.wide - 1) s u) (m2 : ∀ u, u ∈ S2 ↔ ∃ s ∈ S1, Moved 1 (r.1 * t) 0 (n.high - 1) s u)
    (m3 : ∀ u, u ∈ S3 ↔ ∃ s ∈ S2, Moved 2 (r.2 * t) (0 - n.clocks) n.clocks s u) (u : Stand) : u ∈ S3 ↔ inNet n u ∧ ∃ s ∈ S, reach r t s u := by
  rw [m3]
  constructor
  · rintro ⟨s2, h2, o, o1, o2, o3, o4, rfl⟩
    obtain ⟨s1, h1, y, y1, y2, y3, y4, rfl⟩ := (m2 s2).mp h2
    obtain ⟨s, h0, x, x1, x2, x3, x4, rfl⟩ := (m1 s1).mp h1
    obtain ⟨a, b, c⟩ := s
    simp only [getc, setc] at *
    refine ⟨?_, (a, b, c), h0, ?_⟩
    · unfold inNet
      simp only
      omega
    · unfold reach
      simp only
      omega
  · rintro ⟨hi, s, hs, hr⟩
    obtain ⟨a, b, c⟩ := s
    obtain ⟨x, y, o⟩ := u
    unfold inNet at hi
    unfold reach at hr
    simp only at hi hr
    refine ⟨(x, y, c), (m2 _).mpr ⟨(x, b, c), (m1 _).mpr ⟨(a, b, c), hs, x, ?_⟩, y, ?_⟩, o, ?_⟩
    · simp only [getc, setc, and_true]
      omega
    · simp only [getc, setc, and_true]
      omega
    · simp only [getc, setc, and_true]
      omega
theorem c_widened (T : Txt K mg C) : Cl P w K mg base 2 "widened" (spWidened K) := by
  refine T.d_widened.mk (ps := ["net", "rule", "stands", "ticks"]) (fun _ _ _ _ _ _ us hl => match us, hl with | [_, _, _, _], _ => rfl) sc_widened (fun vs H Q E h => ?_) fun f cdv A outer s H vs Q E hr h => ?_
  · obtain ⟨nv, rv, sv, n, r, S, t, rfl, _⟩ := h
    rfl
  · obtain ⟨nv, rv, sv, n, r, S, t, rfl, hn, hrv, hs, nok, rok, hin, hlen, ht, k⟩ := h
    obtain ⟨a, b, hl, rfl, ha, hb, hp⟩ := hn.n
    obtain ⟨c, rfl, hc⟩ := hrv.r
    have w0 := nok.w0
    have w1 := nok.w1
    have h0 := nok.h0
    have h1 := nok.h1
    have c0 := nok.c0
    have c1 := nok.c1
    have f0 := rok.f0
    have f1 := rok.f1
    have d0 := rok.d0
    have d1 := rok.d1
    obtain ⟨p1, p2⟩ := rok.nn (t := t) (by omega)
    have q1 : r.1 * t ≤ 3 * 60 := Int.mul_le_mul f1 ht.2 (by omega) (by decide)
    have q2 : r.2 * t ≤ 2 * 60 := Int.mul_le_mul d1 ht.2 (by omega) (by decide)
    have nd := sc_widened.nd
    refine ⟨_, pss_cons (ps_par (i := 4) (j := 5) rfl nd rfl rfl (by decide) rfl rfl (pa_cons (pe_op op_mul (pe_ix ix_tup (pv 1) pe_int (fun _ _ => rfl)) (pv 3)) (pa_cons (pe_op op_mul (pe_ix ix_tup (pv 1) pe_int (fun _ _ => rfl)) (pv 3)) pa_nil)) (by rfl))
      (pss_cons (ps_set (i := 6) nd rfl (Or.inl rfl) (pe_f (c_spread T) hr (pa_cons (pv 2) (pa_cons pe_int (pa_cons (pv 4) (pa_cons (pe_tup (pa_cons pe_int (pa_cons (pe_op op_sub (pe_ix ix_tup (pv 0) pe_int (fun _ _ => rfl)) pe_int) pa_nil))) pa_nil))))))
      (pss_cons (ps_set (i := 6) nd rfl (Or.inl rfl) (pe_f (c_spread T) hr (pa_cons (pv 6) (pa_cons pe_int (pa_cons (pv 4) (pa_cons (pe_tup (pa_cons pe_int (pa_cons (pe_op op_sub (pe_ix ix_tup (pv 0) pe_int (fun _ _ => rfl)) pe_int) pa_nil))) pa_nil))))))
      (pss_one (ps_ret (pe_f (c_spread T) hr (pa_cons (pv 6) (pa_cons pe_int (pa_cons (pv 5) (pa_cons (pe_tup (pa_cons (pe_op op_sub pe_int (pe_ix ix_tup (pv 0) pe_int (fun _ _ => rfl))) (pa_cons (pe_ix ix_tup (pv 0) pe_int (fun _ _ => rfl)) pa_nil))) pa_nil))))))))), ?_⟩
    refine ⟨_, rfl, c, _, _, _, rfl, rfl, hc, at0, _, rfl, _, _, rfl, rfl, .inl ⟨by omega, by omega⟩, _, rfl, c, _, _, _, rfl, rfl, hc, at1, _, rfl, _, _, rfl, rfl, .inl ⟨by omega, by omega⟩, _, _, rfl, ?_⟩
    have two : (2 : Nat) ≤ sizeLine := by decide
    refine ⟨_, rfl, _, rfl, _, rfl, a, _, _, _, rfl, rfl, ha, at0, _, _, rfl, rfl, two, fun b1 n1 => ?_⟩
    have e1 : Ex true [] H (upd H b1 (.tup [.int 0, .int (n.wide - 1)])) := .one n1
    refine ⟨sv, 0, r.1 * t, 0, n.wide - 1, b1, S, rfl, .inl (e1.stands hs), .of upd_same, by omega, by omega, by omega, by omega, fun s hs => ?_, ?_, fun H2 d2 S2 e2 dd2 nd2 m2 l2 => ?_⟩
    · have := hin s hs
      unfold inNet at this
      simp only [getc]
      omega
    · exact Nat.le_trans (Nat.mul_le_mul (show S.length + 1 ≤ 126 by omega) (show (n.wide - 1 - 0 + 1).toNat ≤ 5 by omega)) (by decide)
    have l2' : S2.length ≤ 625 := Nat.le_trans l2 (Nat.le_trans (Nat.mul_le_mul hlen (show (n.wide - 1 - 0 + 1).toNat ≤ 5 by omega)) (by decide))
    have e12 := e1.trans e2
    refine ⟨_, rfl, _, rfl, _, rfl, a, _, _, _, rfl, rfl, e12.sqT ha, at1, _, _, rfl, rfl, two, fun b3 n3 => ?_⟩
    have e3 : Ex true [] H (upd H2 b3 (.tup [.int 0, .int (n.high - 1)])) := e12.new n3
    have nb : d2 ≠ b3 := ne_of_none dd2 n3
    refine ⟨.ref d2, 1, r.1 * t, 0, n.high - 1, b3, S2, rfl, .inr ⟨d2, rfl, by rw [DOf, upd_ne nb]; exact dd2⟩, .of upd_same, by omega, by omega, by omega, by omega, fun s hs => ?_, ?_, fun H4 d4 S4 e4 dd4 nd4 m4 l4 => ?_⟩
    · obtain ⟨s0, hs0, x, x1, x2, x3, x4, rfl⟩ := (m2 s).mp hs
      have := hin s0 hs0
      unfold inNet at this
      simp only [getc, setc]
      omega
    · exact Nat.le_trans (Nat.mul_le_mul (show S2.length + 1 ≤ 626 by omega) (show (n.high - 1 - 0 + 1).toNat ≤ 5 by omega)) (by decide)
    have l4' : S4.length ≤ 3125 := Nat.le_trans l4 (Nat.le_trans (Nat.mul_le_mul l2' (show (n.high - 1 - 0 + 1).toNat ≤ 5 by omega)) (by decide))
    have e34 := e3.trans e4
    refine ⟨_, rfl, _, rfl, _, rfl, a, _, _, _, rfl, rfl, e34.sqT ha, at2, _, _, rfl, rfl, _, rfl, a, _, _, _, rfl, rfl, e34.sqT ha, at2, two, fun b5 n5 => ?_⟩
    have e5 : Ex true [] H (upd H4 b5 (.tup [.int (0 - n.clocks), .int n.clocks])) := e34.new n5
    have nb5 : d4 ≠ b5 := ne_of_none dd4 n5
    refine ⟨.ref d4, 2, r.2 * t, 0 - n.clocks, n.clocks, b5, S4, rfl, .inr ⟨d4, rfl, by rw [DOf, upd_ne nb5]; exact dd4⟩, .of upd_same, by omega, by omega, by omega, by omega, fun s hs => ?_, ?_, fun H6 d6 S6 e6 dd6 nd6 m6 l6 => ?_⟩
    · obtain ⟨s1, hs1, y, y1, y2, y3, y4, rfl⟩ := (m4 s).mp hs
      obtain ⟨s0, hs0, x, x1, x2, x3, x4, rfl⟩ := (m2 s1).mp hs1
      have := hin s0 hs0
      unfold inNet at this
      simp only [getc, setc]
      omega
    · exact Nat.le_trans (Nat.mul_le_mul (show S4.length + 1 ≤ 3126 by omega) (show (n.clocks - (0 - n.clocks) + 1).toNat ≤ 5 by omega)) (by decide)
    exact k H6 d6 S6 (e5.trans e6) dd6 nd6 (widened_mem m2 m4 m6) (Nat.le_trans l6 (Nat.le_trans (Nat.mul_le_mul l4' (show (n.clocks - (0 - n.clocks) + 1).toNat ≤ 5 by omega)) (by decide)))
end Fb
namespace Fb
open PySem PySem.Spec PyProof.Rows L2
variable {P : Program} {w : World} {K : PySem.W.Frag} {mg : Str → Option Value} {base : Heap} {C : Addr}
/-! ### sorted stands -/
theorem alike_ints3 (a b c x y z : Int) : PySem.W.alike (.tuple [.int a, .int b, .int c]) (.tuple [.int x, .int y, .int z]) = true := by
  have := PySem.W.alike_ints [a, b, c] [x, y, z]
  simpa [PySem.W.alike] using this
theorem dataLt_S (p q : Stand) : PySem.W.dataLt (encS p) (encS q) = decide (lt3 p q) := by
  obtain ⟨a, b, c⟩ := p
  obtain ⟨x, y, z⟩ := q
  have e : PySem.W.dataLt (encS (a, b, c)) (encS (x, y, z)) = PySem.W.rowLt ([a, b, c].map .int) ([x, y, z].map .int) := PySem.W.dataLt_tuple _ _
  rw [e, PySem.W.dataLt_ints]
  refine decide_eq_decide.mpr ?_
  unfold lt3
  simp only [List.cons_lt_cons_iff]
  simp
theorem dataLe_S : PySem.W.dataLe false encS = fun p q => !decide (lt3 q p) := by
  funext p q
  show (!PySem.W.dataLt (encS q) (encS p)) = _
  rw [dataLt_S]
theorem lt3_neg_trans {p q r : Stand} (h1 : ¬ lt3 q p) (h2 : ¬ lt3 r q) : ¬ lt3 r p := by
  unfold lt3 at *
  omega
theorem sortS_ss {S : List Stand} (h : S.Nodup) : SS (S.mergeSort (PySem.W.dataLe false encS)) := by
  rw [dataLe_S]
  have e := List.pairwise_mergeSort (le := fun p q : Stand => !decide (lt3 q p)) (fun a b c h1 h2 => by
    simp only [Bool.not_eq_true', decide_eq_false_iff_not] at *
    exact lt3_neg_trans h1 h2) (fun a b => by
    rw [Bool.or_eq_true]
    by_cases h : lt3 b a
    · right
      simp only [Bool.not_eq_true', decide_eq_false_iff_not]
      exact lt3_asymm h
    · left
      simp only [Bool.not_eq_true', decide_eq_false_iff_not]
      exact h) S
  have hp := List.mergeSort_perm S (fun p q : Stand => !decide (lt3 q p))
  have nd := hp.nodup_iff.mpr h
  refine (e.and nd).imp fun {a b} q => ?_
  obtain ⟨q1, q2⟩ := q
  simp only [Bool.not_eq_true', decide_eq_false_iff_not] at q1
  by_cases l : lt3 a b
  · exact l
  · exact absurd (lt3_tri l q1) q2
theorem sortS_mem {S : List Stand} {s : Stand} : s ∈ S.mergeSort (PySem.W.dataLe false encS) ↔ s ∈ S := (List.mergeSort_perm S _).mem_iff
theorem eachOf {H : Hp} : ∀ {xs : List V} {us : List Value} {S : List Stand}, Vals xs us → Paired (fun v s => Dp K H v (encS s)) xs S → PySem.W.EachIs (fun u s => ∃ x, RelV x u ∧ Dp K H x (encS s)) us S
  | _, _, _, .nil, .nil => .nil
  | _, _, _, .cons r t, .cons d t' => .cons ⟨_, r, d⟩ (eachOf t t')
theorem eachTo {H : Hp} : ∀ {us : List Value} {S : List Stand}, PySem.W.EachIs (fun u s => ∃ x, RelV x u ∧ Dp K H x (encS s)) us S → ∃ xs, Vals xs us ∧ Paired (fun v s => Dp K H v (encS s)) xs S
  | _, _, .nil => ⟨[], .nil, .nil⟩
  | _, _, .cons ⟨x, r, d⟩ t => by
    obtain ⟨xs, h1, h2⟩ := eachTo t
    exact ⟨x :: xs, .cons r h1, .cons d h2⟩
theorem alikeS (S : List Stand) : PySem.W.AllAlike (S.map encS) := .of fun b b' => alike_ints3 _ _ _ _ _ _
theorem sortableS (S : List Stand) : PySem.W.Sortable (S.map encS) := .tuples fun b => ⟨_, _, rfl⟩
theorem depthS (s : Stand) : (encS s).depth ≤ 1 := (tt_lay 1 _ (tt_S s)).2
theorem readsS_nil {h : Heap} {v : Value} {s : Stand} {as : List Addr} (r : Reads h v (encS s) as) : as = [] := by
  cases r with
  | @tuple _ _ vs _ _ _ _ _ _ h =>
    generalize vs.toList = us at h
    cases h with
    | cons a h =>
      cases h with
      | cons b h =>
        cases h with
        | cons c h =>
          cases h
          cases a
          cases b
          cases c
          rfl
def rSortS (K : PySem.W.Frag) : List V → Hp → VK → Prop := fun vs H Q => ∃ (a : Addr) (xs : List V) (S : List Stand), vs = [.ref a] ∧ SqL K H a xs ∧ Paired (fun v s => Dp K H v (encS s)) xs S ∧ S.Nodup ∧
  ∀ (S' : List Stand) (xs' : List V) (p : Addr), SS S' → (∀ s, s ∈ S' ↔ s ∈ S) → Paired (fun v s => Dp K H v (encS s)) xs' S' → H p = none → Q (.ref p) (upd H p (.lst xs'))
def rSortDS (K : PySem.W.Frag) : List V → Hp → VK → Prop := fun vs H Q => ∃ (a : Addr) (S : List Stand), vs = [.ref a] ∧ DOf H a S ∧ S.Nodup ∧
  ∀ (S' : List Stand) (xs' : List V) (p : Addr), SS S' → (∀ s, s ∈ S' ↔ s ∈ S) → Paired (fun v s => Dp K H v (encS s)) xs' S' → H p = none → Q (.ref p) (upd H p (.lst xs'))
section
variable {X : Cx}
theorem cr_sortedS (hu : X.A.units + 65 < cLine) : CallR X (.builtin "sorted") (rSortS X.K) := by
  intro pins s σ H vs us Q I r h
  obtain ⟨a, xs, S, rfl, hs, hp, nd, q⟩ := h
  obtain ⟨its, rv, hl, hz⟩ := I.list hs
  rw [Vals.ref1 r]
  have e0 := eachOf rv hp
  have hlen := hp.length
  refine PySem.W.sorted_data (R := fun u s => ∃ x, RelV x u ∧ Dp X.K H x (encS s)) (enc := encS) (bs := S) hl.isList e0 (e0.mono fun u s ⟨x, r, d⟩ => Dp.reads I _ _ _ d r) (alikeS S) (sortableS S) (by omega) (fun b _ => by have := depthS b; omega) fun out ho eo => ?_
  obtain ⟨xs', h1, h2⟩ := eachTo eo
  obtain ⟨ep, he'⟩ := PyProof.Rows.sortedAll_at s.heap its out.toArray
  have hlen' : xs'.length ≤ sizeLine := by
    have := h1.length
    omega
  exact ⟨.ref _, upd H (s.heap.objs.size + 1) (.lst xs'), I.laid (t' := s.toks) (fun _ _ => PyProof.Rows.sortedAll_old) (Nat.le_succ _) ⟨hlen', out, ep, h1, he'⟩, rfl, q _ xs' _ (sortS_ss nd) (fun s => sortS_mem) h2 (I.hok.fresh (Nat.le_succ _))⟩
theorem ent_key (s : Stand) : (ent s).1.map kV = [.int s.1, .int s.2.1, .int s.2.2] := rfl
theorem cr_sortedDS (hu : X.A.units + 65 < cLine) (hc : X.calm = true) : CallR X (.builtin "sorted") (rSortDS X.K) := by
  intro pins s σ H vs us Q I r h
  obtain ⟨a, S, rfl, hd, nd, q⟩ := h
  rw [Vals.ref1 r]
  obtain ⟨z, lo, xs', rel, o, es, ep, ho, hx, hdat, hes, his, hn⟩ := dt_of I.hok hd
  have l1 : S.length = xs'.length := by
    have := Paired.length rel
    rwa [List.length_map] at this
  have l2 : es.size = xs'.length := size_of_entries hes
  have hz : S.length ≤ sizeLine := by rwa [List.length_map] at z
  refine Calls.call_function_entry PyProof.Rows.kind_sorted PyProof.Rows.plain_sorted PyProof.Rows.entry_sorted (PyProof.Rows.args_sorted1 _) ?_
  unfold Builtin.«sorted»
  refine wpAny_bind (m := checkCount "sorted" 1 1 _) (wpAny_pure ?_)
  refine wpAny_bind (PySem.W.kdu_collect (A := X.A.in1) (PySem.KdlSrc.rawDict (d := a) (es := es) (ep := ep) lo) (I.ok.hd hc) ⟨o, ho, hx, hdat⟩ (by omega) fun h' tk acc hk hacc => ?_)
  have I1 : Inv X pins σ H { s with heap := h', toks := tk } := I.kept hk
  have hal : acc.toList.length = S.length := by rw [Array.length_toList, hacc.1]; omega
  have ev : ∀ (j : Nat) (v : Value), acc.toList[j]? = some v → ∃ b s', v = .ref b ∧ S[j]? = some s' ∧ H b = some (.tup [.int s'.1, .int s'.2.1, .int s'.2.2]) := by
    intro j v hj
    obtain ⟨hi, rfl⟩ := hacc.2 j v (by rw [← Array.getElem?_toList]; exact hj)
    have he := entry_at hes j
    rw [Array.getElem?_eq_getElem hi] at he
    cases hxj : xs'[j]? with
    | none =>
      rw [hxj] at he
      cases he
    | some x =>
      rw [hxj] at he
      have een : es[j] = entryOfKey (tupleKind (mixKind X.prog X.w)) x := Option.some.inj he
      obtain ⟨e0, he0, r1, r2, r3⟩ := PySem.Paired.to rel hxj
      rw [List.getElem?_map] at he0
      cases hkj : S[j]? with
      | none =>
        rw [hkj] at he0
        cases he0
      | some s' =>
        rw [hkj] at he0
        cases he0
        exact ⟨x.2.1, s', by rw [een]; rfl, rfl, r2⟩
  have each : ∀ (us : List Value) (T : List Stand), us.length = T.length → (∀ (j : Nat) (v : Value), us[j]? = some v → ∃ b s', v = .ref b ∧ T[j]? = some s' ∧ H b = some (.tup [.int s'.1, .int s'.2.1, .int s'.2.2])) → PySem.W.EachIs (fun u s => ∃ x, RelV x u ∧ Dp X.K H x (encS s)) us T := by
    intro us
    induction us with
    | nil =>
      intro T hT _
      cases T with
      | nil => exact .nil
      | cons _ _ => simp at hT
    | cons u us ih =>
      intro T hT hv
      cases T with
      | nil => simp at hT
      | cons t T =>
        obtain ⟨b, s', rfl, e, hb⟩ := hv 0 u rfl
        cases e
        exact .cons ⟨.ref b, rfl, Dp.ofS (.of hb)⟩ (ih T (by simpa using hT) fun j v hj => by
          obtain ⟨b, s', e1, e2, e3⟩ := hv (j + 1) v (by simpa using hj)
          exact ⟨b, s', e1, by simpa using e2, e3⟩)
  have e0 := each _ _ hal ev
  refine wpAny_bind (wpAny_newList ?_ (by omega))
  have hoL : (h'.push (seqObj "list" acc.toList.toArray 0)).get? h'.objs.size = some (seqObj "list" acc.toList.toArray 0) := Heap.get?_push_size _ rfl
  show wpAny _ _ _ _ _ { s with heap := h'.push (seqObj "list" acc.toList.toArray 0), toks := tk }
  refine wpAny_bind (wpAny_holding ?_)
  refine PySem.W.list_sort_data (s := { s with heap := h'.push (seqObj "list" acc.toList.toArray 0), toks := tk }) (R := fun u s => ∃ x, RelV x u ∧ Dp X.K H x (encS s)) (enc := encS) (bs := S) hoL e0
    (e0.mono fun u s' ⟨x, r, d⟩ => by
      obtain ⟨as, rd⟩ := Dp.reads I1 _ _ _ d r
      have := readsS_nil rd
      subst this
      exact ⟨[], PyProof.Rows.Reads.keeps (fun _ _ e => Heap.get?_push_of_some _ e) rd, by simp⟩) (alikeS S) (sortableS S) (by omega) (fun b _ => by have := depthS b; show X.A.units + 1 + 1 + _ < cLine; omega) fun out ho eo => ?_
  obtain ⟨ys, h1, h2⟩ := eachTo eo
  obtain ⟨e', he'⟩ := PyProof.Rows.sortedHeap_at (vs := acc.toList) (out := out.toArray) hoL
  have hlen : ys.length ≤ sizeLine := by
    have := h1.length
    omega
  refine wpAny_pure ⟨_, rfl, .ref h'.objs.size, upd H h'.objs.size (.lst ys), I1.laid (t' := tk) (fun b u e => ?_) (Nat.le_refl _)
    (show ObjOk X.prog X.w _ _ _ (.lst ys) from ⟨hlen, out, e', h1, he'⟩), rfl, q _ ys _ (sortS_ss nd) (fun s => sortS_mem) h2 (I1.hok.fresh (Nat.le_refl _))⟩
  have hb : b < h'.objs.size := Heap.lt_size e
  rw [PyProof.Rows.sortedHeap_old (Nat.ne_of_lt hb) (by rw [size_push']; exact Nat.lt_succ_of_lt hb)]
  exact Heap.get?_push_of_some _ e
end
end Fb
namespace Fb
open PySem PySem.Spec PyProof.Rows L2
variable {P : Program} {w : World} {K : PySem.W.Frag} {mg : Str → Option Value} {base : Heap} {C : Addr}
/-! ### zip of a tuple and two lists -/
def Itz3 (K : PySem.W.Frag) (a b c : Addr) : It :=
  ⟨fun i H => ∃ (xs ys zs : List V) (x y z : V), SqT K H a xs ∧ SqL K H b ys ∧ SqL K H c zs ∧ xs[i]? = some x ∧ ys[i]? = some y ∧ zs[i]? = some z,
    fun i H v H' => ∃ T x y z, v = .ref T ∧ H T = none ∧ H' = upd H T (.tup [x, y, z]) ∧ (∀ xs, SqT K H a xs → xs[i]? = some x) ∧ (∀ ys, SqL K H b ys → ys[i]? = some y) ∧ ∀ zs, SqL K H c zs → zs[i]? = some z,
    fun i H => ∃ xs ys zs : List V, SqT K H a xs ∧ SqL K H b ys ∧ SqL K H c zs ∧ xs.length = i ∧ ys.length = i ∧ zs.length = i⟩
theorem turn_zip3 {P : Program} {w : World} {K : PySem.W.Frag} {elts : List Expr} {kk : Nat} {tpos : Pos} {a b c z TI TO i1 i2 i3 : Addr} (D : ZipSep3 z TI TO i1 i2 i3 [i1, a] [i2, b] [i3, c]) :
    Turn P w K (.Tuple elts kk tpos) (Itz3 K a b c) [z, TI, TO, i1, i2, i3] z (fun i h => IsZip h z TI TO .none ∧ IsTupOf3 h TI (.ref i1) (.ref i2) (.ref i3) ∧ (∃ x y z, IsTupOf3 h TO x y z) ∧ h.IsTupleIter i1 a i ∧ h.IsListIter i2 b i ∧ h.IsListIter i3 c i) where
  mem := by simp
  obj := fun i h st d hd => by
    obtain ⟨hz, hTI, ⟨x, y, u, hTO⟩, ⟨o1, e1, _, d1⟩, ⟨o2, e2, _, d2⟩, ⟨o3, e3, _, d3⟩⟩ := st
    have e' : d = z ∨ d = TI ∨ d = TO ∨ d = i1 ∨ d = i2 ∨ d = i3 := by simpa using hd
    rcases e' with q | q | q | q | q | q
    · rw [q]; exact ⟨_, hz, fun v q => nomatch q⟩
    · rw [q]; exact ⟨_, hTI, fun v q => nomatch q⟩
    · rw [q]; exact ⟨_, hTO, fun v q => nomatch q⟩
    · rw [q]; exact ⟨o1, e1, fun v q => by rw [d1] at q; cases q⟩
    · rw [q]; exact ⟨o2, e2, fun v q => by rw [d2] at q; cases q⟩
    · rw [q]; exact ⟨o3, e3, fun v q => by rw [d3] at q; cases q⟩
  keep := fun i h h' st k => by
    obtain ⟨hz, hTI, ⟨x, y, u, hTO⟩, h1, h2, h3⟩ := st
    exact ⟨k z (by simp) _ hz, k TI (by simp) _ hTI, ⟨x, y, u, k TO (by simp) _ hTO⟩, h1.at fun o q => k i1 (by simp) o q, h2.at fun o q => k i2 (by simp) o q, h3.at fun o q => k i3 (by simp) o q⟩
  item := by
    intro X hP hw hK hc i pins s σ H E I hf st hg
    subst hP hw hK
    obtain ⟨hz, hTI, ⟨x0, y0, u0, hTO⟩, h1, h2, h3⟩ := st
    obtain ⟨xs, ys, zs, x, y, u, hqx, hqy, hqz, hx, hy, hu⟩ := hg
    obtain ⟨its, rv, p, _⟩ := I.tuple hqx
    obtain ⟨its2, rv2, p2, _⟩ := I.list hqy
    obtain ⟨its3, rv3, p3, _⟩ := I.list hqz
    obtain ⟨v1, g1, r1⟩ := rv.get hx
    obtain ⟨v2, g2, r2⟩ := rv2.get hy
    obtain ⟨v3, g3, r3⟩ := rv3.get hu
    have hzl : z < s.heap.objs.size := Heap.lt_size hz
    have hh : X.A.in1.handled = none := I.ok.hd hc
    have ne1 : a ≠ i1 := fun q => by
      obtain ⟨o1, e1, c1, _⟩ := h1
      obtain ⟨o, ho, hc, _⟩ := p
      rw [q, e1] at ho
      cases ho
      rw [c1] at hc
      exact absurd (Value.type.inj hc) (by decide)
    have ne2 : b ≠ i2 := fun q => by
      obtain ⟨o1, e1, c1, _⟩ := h2
      obtain ⟨⟨o, ho⟩⟩ := Nonempty.intro p2.isList
      obtain ⟨ho, hc, _⟩ := ho
      rw [q, e1] at ho
      cases ho
      rw [c1] at hc
      exact absurd (Value.type.inj hc) (by decide)
    have ne3 : c ≠ i3 := fun q => by
      obtain ⟨o1, e1, c1, _⟩ := h3
      obtain ⟨⟨o, ho⟩⟩ := Nonempty.intro p3.isList
      obtain ⟨ho, hc, _⟩ := ho
      rw [q, e1] at ho
      cases ho
      rw [c1] at hc
      exact absurd (Value.type.inj hc) (by decide)
    have l1 : i < its.toArray.size := by simpa using (List.getElem?_eq_some_iff.mp g1).1
    have l2 : i < its2.toArray.size := by simpa using (List.getElem?_eq_some_iff.mp g2).1
    have l3 : i < its3.toArray.size := by simpa using (List.getElem?_eq_some_iff.mp g3).1
    refine wpAny_pyNext_zipD3_item D (Draws.tuple hh i1 a ne1 its.toArray) (Draws.list hh i2 b ne2 its2.toArray) (Draws.list hh i3 c ne3 its3.toArray) hz hTI hTO ⟨h1, p⟩ ⟨h2, p2.isList⟩ ⟨h3, p3.isList⟩ l1 l2 l3 fun w1 w2 w3 h' tk q1 q2 q3 z' TO' d1 d2 d3 hT hsz hk => ?_
    have b1 : w1 = v1 := by
      have := q1.symm.trans (show its.toArray[i]? = some v1 by simpa using g1)
      exact Option.some.inj this
    have b2 : w2 = v2 := by
      have := q2.symm.trans (show its2.toArray[i]? = some v2 by simpa using g2)
      exact Option.some.inj this
    have b3 : w3 = v3 := by
      have := q3.symm.trans (show its3.toArray[i]? = some v3 by simpa using g3)
      exact Option.some.inj this
    subst b1 b2 b3
    refine ⟨_, rfl, wpAny_letOwnedTupleGo_zip (s := { s with heap := h', toks := tk }) z' fun h'' z'' sb => ?_⟩
    have hT2 : h''.get? s.heap.objs.size = some { cls := .type "tuple", data := .seq #[w1, w2, w3] } := (sb.2 _ (Nat.ne_of_gt hzl)).trans hT
    have new : ObjOk X.prog X.w (upd H s.heap.objs.size (.tup [x, y, u])) h'' s.heap.objs.size (.tup [x, y, u]) :=
      ⟨by show 3 ≤ sizeLine; decide, [w1, w2, w3], .cons r1 (.cons r2 (.cons r3 .nil)), ⟨_, hT2, rfl, _, rfl⟩⟩
    have I1 : Inv X pins σ (upd H s.heap.objs.size (.tup [x, y, u])) { s with heap := h'', toks := tk } :=
      I.turnedNew (t' := tk) (ch := [z, TI, TO, i1, i2, i3]) (fun d o hb q => (sb.2 d (fun q' => hb (by simp [q']))).trans (hk d o (fun q' => hb (by simp [q'])) (fun q' => hb (by simp [q'])) (fun q' => hb (by simp [q'])) (fun q' => hb (by simp [q'])) (fun q' => hb (by simp [q'])) q)) hf (Nat.le_refl _) new
    refine ⟨.ref s.heap.objs.size, _, I1, rfl, ⟨_, x, y, u, rfl, I.hok.fresh (Nat.le_refl _), rfl, fun l hl => by rw [I.tuple_inj hl hqx]; exact hx, fun l hl => by rw [I.list_inj hl hqy]; exact hy, fun l hl => by rw [I.list_inj hl hqz]; exact hu⟩, ⟨z'', ?_, ⟨w1, w2, w3, ?_⟩, ?_, ?_, ?_⟩, fun d hd => ?_⟩
    · exact (sb.2 _ D.TIz).trans (hk _ _ D.TIz D.TITO D.TIi1 D.TIi2 D.TIi3 hTI)
    · exact (sb.2 _ D.TOz).trans TO'
    · exact d1.1.at fun o q => (sb.2 _ (Ne.symm D.zi1)).trans q
    · exact d2.1.at fun o q => (sb.2 _ (Ne.symm D.zi2)).trans q
    · exact d3.1.at fun o q => (sb.2 _ (Ne.symm D.zi3)).trans q
    · have hlt : d < s.heap.objs.size := by
        have e' : d = z ∨ d = TI ∨ d = TO ∨ d = i1 ∨ d = i2 ∨ d = i3 := by simpa using hd
        rcases e' with q | q | q | q | q | q
        · rw [q]; exact hzl
        · rw [q]; exact Heap.lt_size hTI
        · rw [q]; exact Heap.lt_size hTO
        · rw [q]; obtain ⟨_, e1, _⟩ := h1; exact Heap.lt_size e1
        · rw [q]; obtain ⟨_, e2, _⟩ := h2; exact Heap.lt_size e2
        · rw [q]; obtain ⟨_, e3, _⟩ := h3; exact Heap.lt_size e3
      rw [upd_ne (Nat.ne_of_lt hlt)]
      exact (hf d hd).1
  done := by
    intro X hP hw hK hc i pins s σ H E I hf st hg
    subst hP hw hK
    obtain ⟨hz, hTI, ⟨x0, y0, u0, hTO⟩, h1, h2, h3⟩ := st
    obtain ⟨xs, ys, zs, hqx, hqy, hqz, e1, e2, e3⟩ := hg
    obtain ⟨its, rv, p, _⟩ := I.tuple hqx
    obtain ⟨its2, rv2, p2, _⟩ := I.list hqy
    obtain ⟨its3, rv3, p3, _⟩ := I.list hqz
    have l1 := rv.length
    have l2 := rv2.length
    have l3 := rv3.length
    have hh : X.A.in1.handled = none := I.ok.hd hc
    have ne1 : a ≠ i1 := fun q => by
      obtain ⟨o1, e1, c1, _⟩ := h1
      obtain ⟨o, ho, hc, _⟩ := p
      rw [q, e1] at ho
      cases ho
      rw [c1] at hc
      exact absurd (Value.type.inj hc) (by decide)
    have ne2 : b ≠ i2 := fun q => by
      obtain ⟨o1, e1, c1, _⟩ := h2
      obtain ⟨⟨o, ho⟩⟩ := Nonempty.intro p2.isList
      obtain ⟨ho, hc, _⟩ := ho
      rw [q, e1] at ho
      cases ho
      rw [c1] at hc
      exact absurd (Value.type.inj hc) (by decide)
    have ne3 : c ≠ i3 := fun q => by
      obtain ⟨o1, e1, c1, _⟩ := h3
      obtain ⟨⟨o, ho⟩⟩ := Nonempty.intro p3.isList
      obtain ⟨ho, hc, _⟩ := ho
      rw [q, e1] at ho
      cases ho
      rw [c1] at hc
      exact absurd (Value.type.inj hc) (by decide)
    have s1 : its.toArray.size = i := by rw [List.size_toArray]; omega
    have s2 : its2.toArray.size = i := by rw [List.size_toArray]; omega
    have s3 : its3.toArray.size = i := by rw [List.size_toArray]; omega
    exact wpAny_pyNext_zipD3_end D (Draws.tuple hh i1 a ne1 its.toArray) (Draws.list hh i2 b ne2 its2.toArray) (Draws.list hh i3 c ne3 its3.toArray) hz hTI hTO ⟨h1, p⟩ ⟨h2, p2.isList⟩ ⟨h3, p3.isList⟩ (by omega) (by omega) (by omega) (.inl s1.symm) fun h' tk hk =>
      ⟨rfl, I.turnedL (t' := tk) (ch := [z, TI, TO, i1, i2, i3]) (fun d o hb q =>
        hk d o (fun q' => hb (by simp [q'])) (fun q' => hb (by simp [q'])) (fun q' => hb (by simp [q'])) (fun q' => hb (by simp [q'])) (fun q' => hb (by simp [q'])) q) hf⟩
  self := fun A i s Q E st h => wpAny_pyIter_zip st.1 h
def iZip3 (K : PySem.W.Frag) (ta : TA) : TI := fun σ H R => ta σ H fun vs H1 => ∃ a b c xs ys zs, vs = [.ref a, .ref b, .ref c] ∧ SqT K H1 a xs ∧ SqL K H1 b ys ∧ SqL K H1 c zs ∧ R (Itz3 K a b c) H1
theorem pi_zip3 {X : Cx} {e e2 e3 : Expr} {ta : TA} {p pos tpos : Pos} {elts : List Expr} {kk : Nat} (hg : Gl X "zip") (hm : X.mg "zip" = none) (ha : PA X [e, e2, e3] ta)
    (hs : starEach [e, e2, e3] X.env = (false, eval e X.env) :: starEach [e2, e3] X.env := by rfl) (hpl : (backTo pos (starEach [e2, e3] X.env)).any (·.1) = false := by rfl) :
    PI X (.Tuple elts kk tpos) (.Call (.Name "zip" p) [e, e2, e3] [] pos) (iZip3 X.K ta) := by
  refine ⟨fun pins s σ H R I h => ?_⟩
  refine Call_ (ld_blt I hg hm PyProof.Rows.boot_zip (PyProof.Rows.callWith_type1 (thn (ha.run pos pins s σ H _ I h) fun us s1 ⟨vs, H1, I1, r1, q1⟩ => ?_) hs hpl))
  obtain ⟨a, b, c, xs, ys, zs, ex, hqx, hqy, hqz, q⟩ := q1
  subst ex
  cases r1 with
  | cons r rr =>
    cases rr with
    | cons r' rr =>
      cases rr with
      | cons r'' rr =>
        cases rr
        cases r
        cases r'
        cases r''
        obtain ⟨its, rv, p1, _⟩ := I1.tuple hqx
        obtain ⟨its2, rv2, p2, _⟩ := I1.list hqy
        obtain ⟨its3, rv3, p3, _⟩ := I1.list hqz
        obtain ⟨o1, ho1, _⟩ := id p1
        have la : a < s1.heap.objs.size := Heap.lt_size ho1
        have lb : b < s1.heap.objs.size := p2.lt
        have lc : c < s1.heap.objs.size := p3.lt
        refine zip_begins3 (begins_tuple a its.toArray) (begins_list b its2.toArray) (begins_list c its3.toArray) p1 p2.isList p3.isList fun h' hz hTI hTO h1 h2 h3 hsz hk => wpAny_pyIter_zip hz ?_
        have I2 : Inv X pins σ H1 { s1 with heap := h' } := I1.kept (t' := s1.toks) hk
        refine ⟨s1.heap.objs.size + 5, [s1.heap.objs.size + 5, s1.heap.objs.size + 3, s1.heap.objs.size + 4, s1.heap.objs.size, s1.heap.objs.size + 1, s1.heap.objs.size + 2], _, _, H1, rfl, I2,
          turn_zip3 (zip_sep3 (fun d hd => by rw [List.mem_singleton.mp hd]; exact la) (fun d hd => by rw [List.mem_singleton.mp hd]; exact lb) (fun d hd => by rw [List.mem_singleton.mp hd]; exact lc)), ⟨hz, hTI, ⟨_, _, _, hTO⟩, ⟨_, h1, rfl, rfl⟩, ⟨_, h2, rfl, rfl⟩, ⟨_, h3, rfl, rfl⟩⟩, fun d hd => ?_, q⟩
        have e' : d = s1.heap.objs.size + 5 ∨ d = s1.heap.objs.size + 3 ∨ d = s1.heap.objs.size + 4 ∨ d = s1.heap.objs.size ∨ d = s1.heap.objs.size + 1 ∨ d = s1.heap.objs.size + 2 := by simpa using hd
        have hle : s1.heap.objs.size ≤ d := by
          rcases e' with z | z | z | z | z | z
          · rw [z]; exact Nat.le_add_right _ _
          · rw [z]; exact Nat.le_add_right _ _
          · rw [z]; exact Nat.le_add_right _ _
          · rw [z]; exact Nat.le_refl _
          · rw [z]; exact Nat.le_add_right _ _
          · rw [z]; exact Nat.le_add_right _ _
        exact I1.fpOk hle (I1.hok.fresh hle)
theorem walk_zip3 {K : PySem.W.Frag} {a b c : Addr} {xs ys zs : List V} {n : Nat} (e1 : xs.length = n) (e2 : ys.length = n) (e3 : zs.length = n) : Walk (Itz3 K a b c) n (fun H => SqT K H a xs ∧ SqL K H b ys ∧ SqL K H c zs)
    (fun i H v H' => ∃ T x y z, v = .ref T ∧ H T = none ∧ H' = upd H T (.tup [x, y, z]) ∧ xs[i]? = some x ∧ ys[i]? = some y ∧ zs[i]? = some z) := by
  refine ⟨fun i _ hi q => ?_, fun _ q => ⟨xs, ys, zs, q.1, q.2.1, q.2.2, e1, e2, e3⟩, fun i H v H' _ q y => ?_⟩
  · have h1 : i < xs.length := by omega
    have h2 : i < ys.length := by omega
    have h3 : i < zs.length := by omega
    exact ⟨xs, ys, zs, xs[i], ys[i], zs[i], q.1, q.2.1, q.2.2, by simp [h1], by simp [h2], by simp [h3]⟩
  · obtain ⟨T, x, z, u, h1, h2, h3, h4, h5, h6⟩ := y
    exact ⟨T, x, z, u, h1, h2, h3, h4 xs q.1, h5 ys q.2.1, h6 zs q.2.2⟩
/-! ### not in a tuple -/
def rNotInT (K : PySem.W.Frag) : R2 := fun x y H Q => ∃ d ds, Dp K H x d ∧ Dp K H y (.tuple ds) ∧ SeqAt.shaped d = true ∧ SeqAt.shaped (.tuple ds) = true ∧ Q (.bl (!ds.any fun z => PyData.eqv z d)) H
theorem op_notInT {X : Cx} (hu : X.A.units + 65 < cLine) : OpR X (compareOp .NotIn) (rNotInT X.K) := by
  intro pins s σ H x y v u Q I rx ry h
  obtain ⟨d, ds, hd, he, sd, se, q⟩ := h
  obtain ⟨as, r1⟩ := Dp.reads I d x v hd rx
  obtain ⟨bs, r2⟩ := Dp.reads I (.tuple ds) y u he ry
  exact SeqAt.notIn_tuple_reads r2 r1 (SeqAt.canLay_of_shaped se) (SeqAt.canLay_of_shaped sd) (room_in_shaped sd hu) ⟨.bl _, H, I, rfl, q⟩
end Fb
namespace Fb
open PySem PySem.Spec PyProof.Rows L2
variable {P : Program} {w : World} {K : PySem.W.Frag} {mg : Str → Option Value} {base : Heap} {C : Addr}
/-! ### a tuple backwards -/
section
variable {prog : Program} {A : Around} {E : Value → Shared → Prop} {s : Shared}
theorem rev_adjust (n : Nat) : Builtin.Slice.sliceAdjust none none (-1) (n : Int) = ((n : Int) - 1, -1) := rfl
theorem rev_places (n : Nat) : Builtin.Slice.slicePlaces ((n : Int) - 1) (-1) (-1) = n := by
  unfold Builtin.Slice.slicePlaces
  have h1 : ¬ ((-1 : Int) > 0) := by decide
  simp only [h1, if_false]
  by_cases h : (n : Int) - 1 > -1
  · rw [if_pos h]
    have e : ((n : Int) - 1 - -1 - 1) / (- -1) + 1 = (n : Int) := by
      rw [show (- -1 : Int) = 1 by decide, Int.ediv_one]
      omega
    rw [e]
    exact Int.toNat_natCast n
  · rw [if_neg h]
    omega
theorem rev_pick (xs : Array Value) : ((List.range xs.size).filterMap fun (m : Nat) => xs[(((xs.size : Int) - 1) + (m : Int) * (-1)).toNat]?).toArray = xs.toList.reverse.toArray := by
  have e := PySem.W.krv_pick xs
  rw [← e]
  unfold slicePick
  rw [PySem.W.krv_bounds]
  show _ = ((sliceRange ((xs.size : Int) - 1) (-1) (-1)).filterMap fun k => xs[k]?).toArray
  rw [PySem.W.krv_sliceRange, List.filterMap_map]
  have cong : ∀ (l : List Nat) (f g : Nat → Option Value), (∀ m ∈ l, f m = g m) → l.filterMap f = l.filterMap g := by
    intro l f g
    induction l with
    | nil => exact fun _ => rfl
    | cons a l ih =>
      intro h
      rw [List.filterMap_cons, List.filterMap_cons, h a List.mem_cons_self, ih fun m hm => h m (List.mem_cons_of_mem _ hm)]
  rw [cong _ _ ((fun k => xs[k]?) ∘ fun k => xs.size - 1 - k) fun m hm => ?_]
  have hm' := List.mem_range.mp hm
  have e2 : (((xs.size : Int) - 1) + (m : Int) * (-1)).toNat = xs.size - 1 - m := by omega
  rw [e2]
  rfl
theorem sliceApplied_rev {sl : Addr} {vl vu vk : Value} {n : Nat} {Q : Int × Int × Nat → Shared → Prop} (hs : s.heap.IsSliceOf sl vl vu vk) (pl : IsPart vl none) (pu : IsPart vu none) (pk : IsPart vk (some (-1)))
    (h : Q ((n : Int) - 1, -1, n) s) : wpAny (model prog w) A (Builtin.Slice.sliceApplied (.ref sl) (pure (n : Int))) Q E s := by
  obtain ⟨os, hos, hcs, hds⟩ := id hs
  unfold Builtin.Slice.sliceApplied Builtin.Slice.sliceFields
  refine wpAny_bind (wpAny_bind (wpAny_field hos hds (x := vl) rfl (wpAny_bind (wpAny_field hos hds (x := vu) rfl (wpAny_bind (wpAny_field hos hds (x := vk) rfl (wpAny_pure ?_)))))))
  refine wpAny_bind (HT.slicePart_ pk ?_)
  show wpAny _ _ (if ((-1 : Int) == 0) = true then _ else _) _ _ s
  rw [if_neg (by decide)]
  refine wpAny_bind (HT.slicePart_ pl (wpAny_bind (HT.slicePart_ pu (wpAny_bind (wpAny_pure ?_)))))
  show wpAny _ _ (match Builtin.Slice.sliceAdjust none none (-1) (n : Int) with | (lo, hi) => pure (lo, (-1 : Int), Builtin.Slice.slicePlaces lo hi (-1))) _ _ s
  rw [rev_adjust]
  show wpAny _ _ (pure ((n : Int) - 1, (-1 : Int), Builtin.Slice.slicePlaces ((n : Int) - 1) (-1) (-1))) _ _ s
  rw [rev_places]
  exact wpAny_pure h
theorem getItem_tuple_rev {t sl : Addr} {items : Array Value} {vl vu vk : Value} {Q : Value → Shared → Prop} (ht : IsTup s.heap t items) (hs : s.heap.IsSliceOf sl vl vu vk) (pl : IsPart vl none) (pu : IsPart vu none) (pk : IsPart vk (some (-1)))
    (h : Q (.ref s.heap.objs.size) { s with heap := s.heap.push { cls := .type "tuple", data := .seq items.toList.reverse.toArray } })
    (hsz : items.size ≤ sizeLine) : wpAny (model prog w) A (getItem (.ref t) (.ref sl)) Q E s := by
  have htake : sizeOk (.seq items.toList.reverse.toArray) := by
    show items.toList.reverse.toArray.size ≤ sizeLine
    rw [List.size_toArray, List.length_reverse, Array.length_toList]
    omega
  obtain ⟨os, hos, hcs, hds⟩ := id hs
  have hTs : s.TypeIs (.ref sl) "slice" := ⟨os, hos, hcs⟩
  unfold getItem
  try with_reducible refine wpAny_holding ?_
  first | refine wpAny_bind (wpAny_pure ?_) | skip
  refine wpAny_bind (wpAny_sequenceKey ht.typeIs (by decide) ?_)
  refine wpAny_bind (wpAny_callSpecial?_slot (name := Str.ofString "__getitem__") ht.typeIs PyProof.Rows.slot_tuple_getitem
    (wpAny_call_entry PyProof.Rows.slot_tuple_getitem ht.typeIs PyProof.Rows.entry_tuple_getitem ?_ (PyProof.Rows.args_tuple_getitem _ _)))
  show wpAny _ _ (Builtin.Tuple.tupleItemsOf (.ref t) >>= _) _ _ s
  refine wpAny_bind (tupleItemsOf_ ht ?_)
  refine wpAny_bind (wpAny_typeOf hTs ?_)
  rw [if_pos (by decide)]
  refine wpAny_bind (sliceApplied_rev (n := items.size) hs pl pu pk ?_)
  have hno : ¬ (((((items.size : Int) - 1) == 0 && (-1 : Int) == 1 && items.size == items.size) = true)) := by
    intro q
    rw [Bool.and_eq_true, Bool.and_eq_true] at q
    exact absurd q.1.2 (by decide)
  show wpAny _ _ (if (((items.size : Int) - 1) == 0 && (-1 : Int) == 1 && items.size == items.size) = true then _ else _) _ _ s
  rw [if_neg hno, rev_pick]
  first
    | exact wpAny_bind (m := Builtin.Tuple.tupleExact _) (wpAny_newObj_type (wpAny_pure ⟨_, rfl, wpAny_pure h⟩) htake)
    | exact wpAny_bind (m := Builtin.Tuple.tupleExact _) (wpAny_newObj_type (wpAny_bind (wpAny_pure (wpAny_pure ⟨_, rfl, wpAny_pure h⟩))) htake)
    | exact wpAny_bind (wpAny_bind (m := Builtin.Tuple.tupleExact _) (wpAny_newObj_type (wpAny_pure (wpAny_pure ⟨_, rfl, wpAny_pure h⟩)) htake))
    | exact wpAny_bind (wpAny_bind (m := Builtin.Tuple.tupleExact _) (wpAny_newObj_type (wpAny_pure ⟨_, rfl, wpAny_pure h⟩) htake))
end
def tRevT (K : PySem.W.Frag) (te : TE) : TE := fun σ H Q => te σ H fun x H1 => ∃ a xs, x = .ref a ∧ SqT K H1 a xs ∧ ∀ p, H1 p = none → Q (.ref p) (upd H1 p (.tup xs.reverse))
theorem pe_revT {X : Cx} {e : Expr} {te : TE} {k : Nat} {p1 p2 p3 pos : Pos} (he : PE X e te) : PE X (.Subscript e (.Slice none none (some (.UnaryOp .USub (.Constant (.int 1) k p1) p2)) p3) pos) (tRevT X.K te) := by
  refine ⟨fun pins s σ H Q I h => ?_⟩
  refine Subscript_ (thn (he.run pins s σ H _ I h) fun v s1 ⟨x, H1, I1, r1, q1⟩ => ?_)
  obtain ⟨a, xs, ex, hx, q⟩ := q1
  subst ex
  cases r1
  have hst : PO X (some (.UnaryOp .USub (.Constant (.int 1) k p1) p2)) (tPart (tUn (rU fun i => .int (-i)) (tC (.int 1)))) := po_some (pe_un un_neg pe_int)
  refine wpAny_Slice (thn (po_none.run pins s1 σ H1 (fun o H2 => o = none ∧ H2 = H1) I1 ⟨rfl, rfl⟩) fun vl s2 ⟨l, H2, I2, pl, el, e2⟩ => ?_)
  subst el e2
  refine thn (po_none.run pins s2 σ H2 (fun o H3 => o = none ∧ H3 = H2) I2 ⟨rfl, rfl⟩) fun vu s3 ⟨u, H3, I3, pu, eu, e3⟩ => ?_
  subst eu e3
  refine thn (hst.run pins s3 σ H3 (fun o H4 => o = some (-1) ∧ H4 = H3) I3 ⟨1, rfl, -1, rfl, rfl, rfl⟩) fun vs s4 ⟨o, H4, I4, ps, eo, e4⟩ => ?_
  subst eo e4
  have I5 : Inv X pins σ H4 { s4 with heap := s4.heap.push { cls := .type "slice", data := .fields #[vl, vu, vs] } } := I4.kept (t' := s4.toks) fun b ob q => Heap.get?_push_of_some _ q
  obtain ⟨its, r, ht, hz⟩ := I5.tuple hx
  have hlen := r.length
  show wpAny (model X.prog X.w) X.A (subscriptTail e (.Slice none none (some (.UnaryOp .USub (.Constant (.int 1) k p1) p2)) p3) (.ref a) (.ref s4.heap.objs.size)) (EP X pins σ Q) X.xe { s4 with heap := s4.heap.push { cls := .type "slice", data := .fields #[vl, vu, vs] } }
  refine tail_any (ops := [.ref a, .ref s4.heap.objs.size]) ht.typeIs (PyProof.Rows.slot_tuple_getitem.lookup) ?_ (by with_unfolding_all rfl)
  refine getItem_tuple_rev ht (Heap.IsSliceOf.new _ vl vu vs) pl pu ps ?_ (by rw [List.size_toArray]; omega)
  refine ⟨.ref _, _, I5.laid (t' := s4.toks) (o := .tup xs.reverse) (fun b ob q => Heap.get?_push_of_some _ q) (Nat.le_refl _) ?_, rfl, q _ (I5.hok.fresh (Nat.le_refl _))⟩
  exact ⟨by rw [List.length_reverse]; exact hz, _, r.reverse, IsTup.new _ _⟩
/-! ### != by the own == -/
section
variable {M : Model} {prog : Program} {A : Around} {E : Value → Shared → Prop} {s : Shared} {x y C f : Addr} {ox oy : Obj} {od od' : Option Obj}
theorem ifBound_ne {args : List Value} {Q : Option Value → Shared → Prop} (X : K.In s.heap) (I : PySem.W.InstAt s.heap x ox C od) (hs : PySem.W.findIn K (.ref C) "__ne__" = some (some (.builtin "object.__ne__")))
    (h : wpAny M A (call (.builtin "object.__ne__") (.ref x :: args)) (fun v => Q (some v)) E s) : wpAny M A (callSpecialIfBound? (.ref x) "__ne__" args) Q E s := by
  simp only [callSpecialIfBound?, bindSpecialIfBound?]
  refine wpAny_holding (wpAny_bind (wpAny_bind (wpAny_bind (I.type.here ((PySem.W.looks_findIn X hs).here ?_)))))
  refine wpAny_bind (wpAny_askSetting (wpAny_ite ?_))
  have fin : wpAny M A (call (.builtin "object.__ne__") ([.ref x] ++ args) >>= fun v => pure (some v)) Q E s := wpAny_bind (wpAny_mono h (fun v s' h' => wpAny_pure h') fun _ _ h' => h')
  split
  · exact wpAny_bind (wpAny_of_eq (PySem.F.cmp_object.ne.bind _) (wpAny_pure (by exact fin)))
  · exact wpAny_tryCatch (wpAny_bind (wpAny_of_eq (PySem.F.cmp_object.ne.bind _) (wpAny_pure (by exact fin))))
theorem entry_ne {Q : Fin → Shared → Prop} (X : K.In s.heap) (I : PySem.W.InstAt s.heap x ox C od) (he : PySem.W.findIn K (.ref C) "__eq__" = some (some (.ref f))) (hf : PySem.W.isFn K (.ref f) = true) (hu : A.units < cLine)
    (hcall : wpAny (model prog w) A (call (.ref f) [.ref x, .ref y]) (fun v s' => ∃ b, v = .bool b ∧ Q (.done (.ret (.bool (!b)))) s') E s) : wpAny (model prog w) A (Builtin.«object.__ne__» ⟨[.ref x, .ref y], []⟩) Q E s := by
  unfold Builtin.«object.__ne__»
  repeat (first
    | with_reducible refine wpAny_cRoomFor hu ?_
    | (refine wpAny_bind (m := callSpecialIfBound? (.ref x) (Str.ofString "__eq__") [.ref y])
        (PySem.W.ifBound_K X I he hf (wpAny_mono hcall (fun r s' hr => by
          obtain ⟨b, rfl, hq⟩ := hr
          repeat (first | exact hq | exact wpAny_pure hq | exact wpAny_truthy_bool hq | (refine wpAny_bind (m := truthy (.bool _)) (wpAny_truthy_bool ?_)) | wp_step)) fun _ _ e => e)))
    | wp_step)
theorem rich_ne {Q : Value → Shared → Prop} (X : K.In s.heap) (I : PySem.W.InstAt s.heap x ox C od) (I' : PySem.W.InstAt s.heap y oy C od') (hm : PySem.W.mroIn K C (.type "object") = some true) (hn : PySem.W.findIn K (.ref C) "__ne__" = some (some (.builtin "object.__ne__")))
    (he : PySem.W.findIn K (.ref C) "__eq__" = some (some (.ref f))) (hf : PySem.W.isFn K (.ref f) = true) (hu : A.units + 1 < cLine)
    (hcall : wpAny (model prog w) A.in1 (call (.ref f) [.ref x, .ref y]) (fun v s' => ∃ b, v = .bool b ∧ Q (.bool (!b)) s') E s) : wpAny (model prog w) A (richCompare .NotEq (.ref x) (.ref y)) Q E s := by
  have one : wpAny (model prog w) A (tryCompare (.ref x) "__ne__" (.ref y)) (fun r s' => ∃ b, r = some (.bool (!b)) ∧ Q (.bool (!b)) s') E s := by
    unfold tryCompare
    refine wpAny_bind (ifBound_ne X I hn (wpAny_call (codeAny_call_builtin PySem.F.cmp_object.ne.plain PySem.F.cmpEntry_ne
      (PySem.W.check_slot PySem.F.cmpKind_ne PySem.F.cmpSplit_ne (I.type.andThen (PySem.W.looks_mroIn X hm)) (PySem.F.cmpArgs_ne _ _) (entry_ne (A := A.in1) X I he hf hu (wpAny_mono hcall (fun v s' hv => ?_) fun _ _ e => e))))))
    obtain ⟨b, rfl, hq⟩ := hv
    first | exact ⟨b, rfl, wpAny_pure ⟨b, rfl, hq⟩⟩ | exact ⟨b, rfl, wpAny_pure (wpAny_pure ⟨b, rfl, hq⟩)⟩ | exact ⟨b, rfl, ⟨b, rfl, hq⟩⟩
  unfold richCompare
  simp only [oneThing_ref]
  refine wpAny_holding ?_
  refine wpAny_bind (wpAny_cRoomFor (Nat.lt_of_succ_lt hu) ?_)
  rw [cmpInfo_NotEq]
  dsimp only
  refine wpAny_bind (I.type.here (wpAny_bind (I'.type.here ?_)))
  rw [show (Value.ref C != Value.ref C) = false from by simp]
  simp only [Bool.false_eq_true, if_false]
  refine wpAny_bind (wpAny_pure ?_)
  simp only [Bool.false_eq_true, if_false]
  refine wpAny_bind (wpAny_mono one (fun v s' hv => ?_) fun _ _ e => e)
  obtain ⟨b, rfl, hq⟩ := hv
  first | exact wpAny_pure hq | exact wpAny_pure (wpAny_pure hq)
end
/-- x != y, equal by the class's own == -/
def rNeOwn (C : Addr) (R : Addr → Addr → Hp → Prop) : R2 := fun x y H Q => ∃ a b dx dy fs gs, x = .ref a ∧ y = .ref b ∧ H a = some (.ins C dx fs) ∧ H b = some (.ins C dy gs) ∧ R a b H ∧ ∀ H', Ext H H' → Q (.bl false) H'
theorem op_neOwn {X : Cx} {n : Nat} {CX : CXT} {C f : Addr} {fd : FuncData} {ps : List Str} {R : Addr → Addr → Hp → Prop} {E : XK} (F : FnOk X.prog X.w X.K X.mg X.base CX n f fd ps (spEq R))
    (hs : PySem.W.findIn X.K (.ref C) "__eq__" = some (some (.ref f))) (hf : PySem.W.isFn X.K (.ref f) = true) (hn : PySem.W.findIn X.K (.ref C) "__ne__" = some (some (.builtin "object.__ne__"))) (hm : PySem.W.mroIn X.K C (.type "object") = some true)
    (hb : Binds X.K fd ps []) (hx : Passes CX X E) (hr : Room (n + 1) X.A) : OpR X (compareOp .NotEq) (rNeOwn C R) := by
  intro pins s σ H x y u v Q I rx ry h
  obtain ⟨a, b, dx, dy, fs, gs, rfl, rfl, ha, hb', hR, q⟩ := h
  cases rx
  cases ry
  obtain ⟨mA, J, _⟩ := ins_get I.hok ha
  obtain ⟨mB, J', _⟩ := ins_get I.hok hb'
  obtain ⟨od, J, _⟩ := J.look
  obtain ⟨od', J', _⟩ := J'.look
  show wpAny (model X.prog X.w) X.A (richCompare .NotEq (.ref a) (.ref b)) (EP X pins σ Q) X.xe s
  refine rich_ne I.kIn J J' hm hn hs hf hr.in1.units0 ?_
  have hsp : spEq R [.ref a, .ref b] H (fun v H' => v = .bl true ∧ Ext H H') E := ⟨a, b, rfl, hR, fun H' e => ⟨rfl, e⟩⟩
  have e0 : Env0 X.prog X.w X.K X.mg X.base X.A.in1 X.stack s H := by
    have e := I.env0
    exact ⟨e.frames, e.mod, e.bs, e.bsz, e.funs, e.frf, e.hok, e.bare⟩
  have hl := F.len _ _ _ _ hsp
  have r2 : Vals [V.ref a, V.ref b] [Value.ref a, Value.ref b] := .cons rfl (.cons rfl .nil)
  refine wpAny_call (codeAny_mono (F.run X.A.in1 X.stack s H ⟨[.ref a, .ref b], []⟩ [.ref a, .ref b] [.ref a, .ref b] _ E hr.in1 e0 (by
    have := hb s [.ref a, .ref b] I.kIn (by simpa using hl)
    simpa using this) r2 hsp) fun r s' hq => ?_)
  cases r with
  | error e => exact hx pins σ H s e s' I hq
  | ok fl =>
    cases fl with
    | ret w =>
      obtain ⟨z, H', I', rz, ez, ex⟩ := I.after hq
      subst ez
      cases rz
      exact ⟨true, rfl, .bl false, H', I', rfl, q H' ex⟩
    | next => exact False.elim hq
    | brk => exact False.elim hq
    | cont => exact False.elim hq
end Fb
namespace Fb
open PySem PySem.Spec PyProof.Rows L2
variable {P : Program} {w : World} {K : PySem.W.Frag} {mg : Str → Option Value} {base : Heap} {C : Addr}
/-! ### what is told of a call -/
theorem cr_reprNone {X : Cx} : CallR X (.builtin "repr") (fun xs H Q => xs = [.non] ∧ Q (.str "None") H) := by
  intro pins s σ H xs us Q I r h
  obtain ⟨rfl, q⟩ := h
  obtain ⟨u, rfl, ru⟩ := vals1 r
  cases ru
  exact PySem.P.repr_of_none ⟨.str _, H, I.tok _, ⟨_, rfl⟩, q⟩
def TSaid : (XK → Hp → VK → Prop) → Hp → VK → Prop := fun tl H Q => tl (fun _ _ _ => False) H fun v H' => [v] = [V.non] ∧ Q (.str "None") H'
theorem sc_said : FnScope ["_law_call", "_law_e"] ["_law_call"] (defScope s__law_said) := ⟨rfl, rfl, rfl, by decide +kernel, rfl, by decide +kernel, by decide +kernel⟩
theorem said_gives {X : Cx} {g : Addr} {cdg : Value} {q : Str} (hm : X.mg "repr" = none) : LamX.GivesTo X ["_law_call", "_law_e"] "_law_said" (defScope s__law_said) g cdg (defBody s__law_said) "_law_call" q TSaid := by
  intro f c' s H Q tl act hc h
  have hp := fun p1 p2 => act (fun _ _ _ _ => False) (cxOf C8.CX0 X.prog X.w X.K X.mg X.base ["_law_call", "_law_e"] "_law_said" (defScope s__law_said) g cdg X.A X.stack s H C8.E0).pn (fun _ _ => False) (fun _ _ _ => False) p1 p2 LamX.takes0 (fun _ _ _ _ z => z)
  refine ⟨_, pss_one (ps_try_thru0 (pss_one (ps_ret (pe_callB cr_reprNone (by rfl) hm (by decide +kernel) (pa_cons (hp _ _) pa_nil))))), ?_⟩
  exact ⟨rfl, hc, h⟩
end Fb
namespace Fb
open PySem PySem.Spec PyProof.Rows L2
variable {P : Program} {w : World} {K : PySem.W.Frag} {mg : Str → Option Value} {base : Heap} {C : Addr}
/-! ### a finder -/
def ff (nv rv w v : V) : List (Str × V) := [("own_net", nv), ("own_rule", rv), ("now", w), ("past", v)]
theorem ff_net {nv rv w v} : List.lookup ("own_net" : Str) (ff nv rv w v) = some nv := rfl
theorem ff_rule {nv rv w v} : List.lookup ("own_rule" : Str) (ff nv rv w v) = some rv := rfl
theorem ff_now {nv rv w v} : List.lookup ("now" : Str) (ff nv rv w v) = some w := rfl
theorem ff_past {nv rv w v} : List.lookup ("past" : Str) (ff nv rv w v) = some v := rfl
theorem ff_put {nv rv w v x} : putF "now" x (ff nv rv w v) = ff nv rv x v := by
  have a : ¬ ("own_net" : Str) = "now" := by decide
  have b : ¬ ("own_rule" : Str) = "now" := by decide
  simp only [putF, ff, a, b, if_false, if_true]
theorem ff_0 {nv rv w v} : putF "past" v (putF "now" w (putF "own_rule" rv (putF "own_net" nv []))) = ff nv rv w v := by
  have a1 : ¬ ("own_net" : Str) = "own_rule" := by decide
  have a2 : ¬ ("own_net" : Str) = "now" := by decide
  have a3 : ¬ ("own_net" : Str) = "past" := by decide
  have a4 : ¬ ("own_rule" : Str) = "now" := by decide
  have a5 : ¬ ("own_rule" : Str) = "past" := by decide
  have a6 : ¬ ("now" : Str) = "past" := by decide
  simp only [putF, ff, a1, a2, a3, a4, a5, a6, if_false]
/-- a log of few entries -/
structure LogB (g : List (Int × List Sign)) (m : Nat) : Prop where
  few : g.length ≤ m
  each : ∀ e ∈ g, e.2.length ≤ m
theorem LogB.up {g : List (Int × List Sign)} {m m' : Nat} (h : LogB g m) (hm : m ≤ m') : LogB g m' := ⟨Nat.le_trans h.few hm, fun e he => Nat.le_trans (h.each e he) hm⟩
/-- the finder at a, its past at p: net, rule, tick, stands, at most m deeds -/
structure FAt (K : PySem.W.Frag) (C : Addr) (H : Hp) (a p : Addr) (n : Net) (r : Rule) (t : Int) (S : List Stand) (m : Nat) : Prop where
  ex : ∃ dx nv rv b sv lv ps g, H a = some (.ins C dx (ff nv rv (.ref b) (.ref p))) ∧ Dp K H nv (encN n) ∧ Dp K H rv (encR r) ∧ SqT K H b [.int t, sv, lv] ∧ Dp K H sv (encT S) ∧ Dp K H lv (encL g) ∧ H p = some (.lst ps) ∧ ps.length ≤ m ∧ LogB g m
theorem FAt.ne {H : Hp} {a p : Addr} {n r t S m} (h : FAt K C H a p n r t S m) : a ≠ p := by
  obtain ⟨dx, nv, rv, b, sv, lv, ps, g, h1, _, _, _, _, _, h2, _⟩ := h.ex
  intro e
  subst e
  rw [h1] at h2
  cases h2
theorem FAt.keep {tb : Bool} {qs : List Addr} {H H' : Hp} {a p : Addr} {n r t S m} (h : FAt K C H a p n r t S m) (x : Ex tb qs H H') (ha : a ∉ qs := by simp) (hp : p ∉ qs := by simp) : FAt K C H' a p n r t S m := by
  obtain ⟨dx, nv, rv, b, sv, lv, ps, g, h1, h2, h3, h4, h5, h6, h7, h8⟩ := h.ex
  exact ⟨dx, nv, rv, b, sv, lv, ps, g, x.ins h1 ha, x.net h2, x.rule h3, x.sqT h4, x.stands h5, x.log h6, x.lst h7 hp, h8⟩
theorem pe_mm0 {X : Cx} {k j : Nat} {C : Addr} {m : Str} {sp : Sp} {pos apos : Pos} {o : Expr} {ta : TE} {pl : Sem Bool} (c : Mc X.prog X.w X.K X.mg X.base k C m sp) (cl : Cls X.K C) (hr : Room j X.A) (he : PE X o ta) (hk : k ≤ j := by decide)
    (ht : eval (.Call (.Attribute o m apos) [] [] pos) X.env = (do
      let ov ← eval o X.env
      standAt apos.atName
      let (f, first) ← holding [ov] (getMethod ov m pl)
      callWith pos f first (backTo pos (starEach [] X.env)) (backToKw pos (keywordEach [] X.env))) := by rfl) : PE X (.Call (.Attribute o m apos) [] [] pos) (tMeth C m sp [] E0 ta tNil) := by
  obtain ⟨f, fd, ps, F, hm, b⟩ := c.ex
  exact pe_meth0 he cl hm F (hr.mono hk) b .nil pass0 ht
def spInit (K : PySem.W.Frag) (C : Addr) : Sp := fun vs H Q _ => ∃ (a dx : Addr) (nv rv : V) (n : Net) (r : Rule), vs = [.ref a, nv, rv] ∧ H a = some (.ins C dx []) ∧ Dp K H nv (encN n) ∧ Dp K H rv (encR r) ∧ NetOk n ∧ RuleOk r ∧
  ∀ H' p, Ex true [a] H H' → Nw true H p → FAt K C H' a p n r 0 (allS n) 0 → Q .non H'
theorem sc_init : FnScope ["self", "net", "rule"] ["self", "net", "rule"] (defScope m___init__) := ⟨rfl, rfl, rfl, by decide +kernel, rfl, by decide +kernel, by decide +kernel⟩
theorem ok_init (T : Txt K mg C) : ∃ (f : Addr) (fd : FuncData), Mk K C f ∧ FnOk P w K mg base CX0 8 f fd ["self", "net", "rule"] (spInit K C) ∧ Binds K fd ["self", "net", "rule"] [] := by
  obtain ⟨f, fd, F, M⟩ := T.i_init
  refine ⟨f, fd, M, F.ok sc_init (fun vs H Q E h => ?_) (fun cdv A outer s H vs Q E hr h => ?_), F.binds (fun _ _ _ _ _ _ us hl => match us, hl with | [_, _, _], _ => rfl)⟩
  · obtain ⟨a, dx, nv, rv, n, r, rfl, _⟩ := h
    rfl
  · obtain ⟨a, dx, nv, rv, n, r, rfl, ha, hn, hrv, nok, rok, k⟩ := h
    refine ⟨_, pss_cons (ps_expr (pe_f (c_needNet T) hr (pa_cons (pv 1) pa_nil))) (pss_cons (ps_expr (pe_f (c_needRule T) hr (pa_cons (pv 2) pa_nil))) (pss_cons (ps_fld (pv 0) (pv 1) rfl) (pss_cons (ps_fld (pv 0) (pv 2) rfl)
      (pss_cons (ps_fld (pv 0) (pe_tup (pa_cons pe_int (pa_cons (pe_f (c_all T) hr (pa_cons (pv 1) pa_nil)) (pa_cons (pe_tup pa_nil) pa_nil)))) rfl) (pss_one (ps_fld (pv 0) (pe_lst pa_nil) rfl)))))), ?_⟩
    refine ⟨_, rfl, nv, n, rfl, hn, nok, fun H2 x12 => ⟨_, rfl, rv, r, rfl, x12.rule hrv, rok, ?_⟩⟩
    have a2 := x12.ins ha (by simp)
    refine ⟨_, rfl, _, rfl, a, C, dx, [], rfl, a2, T.cl, T.n_own_net, (by show 0 < 1000; decide), _, rfl, _, rfl, a, C, dx, _, rfl, upd_same, T.cl, T.n_own_rule, (by show 1 < 1000; decide), ?_⟩
    have y1 : Ex true [a] H (upd (upd H2 a (.ins C dx (putF "own_net" nv []))) a (.ins C dx (putF "own_rule" rv (putF "own_net" nv [])))) :=
      (((Ex.nil x12).put (.inl (by simp)) (fun u hu => by rw [a2] at hu; cases hu; rfl)).put (.inl (by simp)) (fun u hu => by rw [upd_same] at hu; cases hu; rfl))
    refine ⟨_, rfl, nv, n, rfl, y1.net hn, nok, fun H3 sv x3 d3 => ⟨Nat.zero_le _, fun e ne => ⟨(by show 3 ≤ sizeLine; decide), fun b nb => ?_⟩⟩⟩
    have a3 := x3.ins (upd_same (H := upd H2 a (.ins C dx (putF "own_net" nv []))) (a := a) (o := .ins C dx (putF "own_rule" rv (putF "own_net" nv [])))) (by simp)
    have y3 := y1.trans (Ex.nil x3)
    have y4 := (y3.new (o := .tup []) ne).new (o := .tup [.int 0, sv, .ref e]) nb
    have nae : a ≠ e := ne_of_none a3 ne
    have a4 : (upd H3 e (.tup [])) a = some (.ins C dx (putF "own_rule" rv (putF "own_net" nv []))) := by rw [upd_ne nae]; exact a3
    have nab : a ≠ b := ne_of_none a4 nb
    refine ⟨_, rfl, a, C, dx, _, rfl, (by rw [upd_ne nab]; exact a4), T.cl, T.n_now, (by show 2 < 1000; decide), Nat.zero_le _, fun p np => ?_⟩
    have nap : a ≠ p := ne_of_none upd_same np
    have y5 : Ex true [a] H (upd (upd (upd (upd (upd H3 e (.tup [])) b (.tup [.int 0, sv, .ref e])) a (.ins C dx (putF "now" (.ref b) (putF "own_rule" rv (putF "own_net" nv []))))) p (.lst [])) a (.ins C dx (putF "past" (.ref p) (putF "now" (.ref b) (putF "own_rule" rv (putF "own_net" nv [])))))) :=
      (((y4.put (.inl (by simp)) (fun u hu => by rw [upd_ne nab, a4] at hu; cases hu; rfl)).new np).put (.inl (by simp)) (fun u hu => by rw [upd_ne nap, upd_same] at hu; cases hu; rfl))
    have z : Ex true [a] H3 (upd (upd (upd (upd (upd H3 e (.tup [])) b (.tup [.int 0, sv, .ref e])) a (.ins C dx (putF "now" (.ref b) (putF "own_rule" rv (putF "own_net" nv []))))) p (.lst [])) a (.ins C dx (putF "past" (.ref p) (putF "now" (.ref b) (putF "own_rule" rv (putF "own_net" nv [])))))) :=
      ((((((Ex.refl (H := H3)).new (o := .tup []) ne).new (o := .tup [.int 0, sv, .ref e]) nb).put (.inl (by simp)) (fun u hu => by rw [upd_ne nab, a4] at hu; cases hu; rfl)).new np).put (.inl (by simp)) (fun u hu => by rw [upd_ne nap, upd_same] at hu; cases hu; rfl))
    refine ⟨_, rfl, a, C, dx, _, rfl, (by rw [upd_ne nap, upd_same]), T.cl, T.n_past, (by show 3 < 1000; decide), ?_⟩
    have neb : e ≠ b := ne_of_none upd_same nb
    have hb5 : (upd (upd (upd (upd (upd H3 e (.tup [])) b (.tup [.int 0, sv, .ref e])) a (.ins C dx (putF "now" (.ref b) (putF "own_rule" rv (putF "own_net" nv []))))) p (.lst [])) a (.ins C dx (putF "past" (.ref p) (putF "now" (.ref b) (putF "own_rule" rv (putF "own_net" nv [])))))) b = some (.tup [.int 0, sv, .ref e]) := by
      have nbp : b ≠ p := ne_of_none (show (upd (upd (upd H3 e (.tup [])) b (.tup [.int 0, sv, .ref e])) a (.ins C dx (putF "now" (.ref b) (putF "own_rule" rv (putF "own_net" nv []))))) b = some (.tup [.int 0, sv, .ref e]) by rw [upd_ne (Ne.symm nab), upd_same]) np
      rw [upd_ne (Ne.symm nab), upd_ne nbp, upd_ne (Ne.symm nab), upd_same]
    have he5 : (upd (upd (upd (upd (upd H3 e (.tup [])) b (.tup [.int 0, sv, .ref e])) a (.ins C dx (putF "now" (.ref b) (putF "own_rule" rv (putF "own_net" nv []))))) p (.lst [])) a (.ins C dx (putF "past" (.ref p) (putF "now" (.ref b) (putF "own_rule" rv (putF "own_net" nv [])))))) e = some (.tup []) := by
      have nep : e ≠ p := ne_of_none (show (upd (upd (upd H3 e (.tup [])) b (.tup [.int 0, sv, .ref e])) a (.ins C dx (putF "now" (.ref b) (putF "own_rule" rv (putF "own_net" nv []))))) e = some (.tup []) by rw [upd_ne (Ne.symm nae), upd_ne neb, upd_same]) np
      rw [upd_ne (Ne.symm nae), upd_ne nep, upd_ne (Ne.symm nae), upd_ne neb, upd_same]
    refine k _ p y5 ?_ ⟨dx, nv, rv, b, sv, .ref e, [], [], by rw [upd_same, ff_0], y5.net hn, y5.rule hrv, .of hb5, z.stands d3, .tup (.of he5) .nil, by rw [upd_ne (Ne.symm nap), upd_same], Nat.zero_le _, ⟨Nat.zero_le _, fun e he => by cases he⟩⟩
    have y4' : Ex true [a] H (upd (upd (upd H3 e (.tup [])) b (.tup [.int 0, sv, .ref e])) a (.ins C dx (putF "now" (.ref b) (putF "own_rule" rv (putF "own_net" nv []))))) := y4.put (.inl (by simp)) (fun u hu => by rw [upd_ne nab, a4] at hu; cases hu; rfl)
    exact y4'.nw np (by simpa using Ne.symm nap)
end Fb
namespace Fb
open PySem PySem.Spec PyProof.Rows L2
variable {P : Program} {w : World} {K : PySem.W.Frag} {mg : Str → Option Value} {base : Heap} {C : Addr}
theorem h65 {A : Around} {k : Nat} (r : Room k A) : A.units + 65 < cLine := by have := r.un; omega
theorem snocP {α β : Type} {F : α → β → Prop} : ∀ {xs : List α} {l : List β} {e : β}, Paired F xs (l ++ [e]) → ∃ ys y, xs = ys ++ [y] ∧ Paired F ys l ∧ F y e
  | _, [], e, h => by
    have h' : Paired F _ [e] := h
    cases h' with
    | cons h1 h2 =>
      cases h2
      exact ⟨[], _, rfl, .nil, h1⟩
  | _, b :: l, e, h => by
    have h' : Paired F _ (b :: (l ++ [e])) := h
    cases h' with
    | cons h1 h2 =>
      obtain ⟨ys, y, e1, e2, e3⟩ := snocP h2
      subst e1
      exact ⟨_ :: ys, y, rfl, .cons h1 e2, e3⟩
/-- two tuples made one -/
theorem cat_dp {α : Type} {f : α → PyData} {k : Nat} (ht : ∀ x, tt k (f x) = true) {H : Hp} {u v : V} {l m : List α} {Q : VK} (ha : Dp K H u (.tuple (l.map f))) (hb : Dp K H v (.tuple (m.map f))) (hz : l.length + m.length ≤ sizeLine)
    (q : ∀ r H', Ex true [] H H' → Dp K H' r (.tuple ((l ++ m).map f)) → Q r H') : rCatA K u v H Q := by
  obtain ⟨a, xs, rfl, h1, p1⟩ := ha.seq
  obtain ⟨b, ys, rfl, h2, p2⟩ := hb.seq
  have l1 := p1.length
  have l2 := p2.length
  refine ⟨a, b, xs, ys, rfl, rfl, h1, h2, by omega, fun z => ?_, fun z z' => ?_, fun _ _ p np => ?_⟩
  · subst z
    cases l with
    | nil => exact q _ _ .refl hb
    | cons _ _ => simp at l1
  · subst z'
    cases m with
    | nil => exact q _ _ .refl (by rw [List.append_nil]; exact ha)
    | cons _ _ => simp at l2
  · have e : Ex true [] H (upd H p (.tup (xs ++ ys))) := .one np
    exact q _ _ e (.ofSeq (.of upd_same) (e.pr ht (p1.app p2)))
/-- all but the last -/
theorem init_dp {α : Type} {f : α → PyData} {k : Nat} (ht : ∀ x, tt k (f x) = true) {H : Hp} {u : V} {l : List α} {e : α} {Q : VK} (ha : Dp K H u (.tuple ((l ++ [e]).map f))) (q : ∀ r H', Ex true [] H H' → Dp K H' r (.tuple (l.map f)) → Q r H') : rSlA K u none (some (-1)) H Q := by
  obtain ⟨a, xs, rfl, h1, p1⟩ := ha.seq
  obtain ⟨ys, y, rfl, p2, _⟩ := snocP p1
  refine ⟨a, _, rfl, h1, fun z => ?_, fun _ p np => ?_⟩
  · have z2 : ((-1 : Int) + ((ys ++ [y]).length : Nat)).toNat = (ys ++ [y]).length := z.2
    rw [List.length_append, List.length_singleton] at z2
    omega
  · have ec : cutV (ys ++ [y]) none (some (-1)) = ys := by
      unfold cutV
      have z2 : HT.sIx (ys ++ [y]).length (ys ++ [y]).length (some (-1)) = ys.length := by
        show ((-1 : Int) + ((ys ++ [y]).length : Nat)).toNat = ys.length
        rw [List.length_append, List.length_singleton]
        omega
      have z1 : HT.sIx (ys ++ [y]).length 0 none = 0 := rfl
      rw [z1, z2]
      simp
    rw [ec]
    have e : Ex true [] H (upd H p (.tup ys)) := .one np
    exact q _ _ e (.ofSeq (.of upd_same) (e.pr ht p2))
theorem one_dp {α : Type} {f : α → PyData} {H : Hp} {p : Addr} {v : V} {x : α} (h : H p = some (.tup [v])) (d : Dp K H v (f x)) : Dp K H (.ref p) (.tuple ([x].map f)) := .ofSeq (.of h) (.cons d .nil)
theorem pair_dp {H : Hp} {p : Addr} {v : V} {t : Int} {gs : List Sign} (h : H p = some (.tup [.int t, v])) (d : Dp K H v (encT gs)) : Dp K H (.ref p) (encE (t, gs)) := .tup (.of h) (.cons (.int _) (.cons d .nil))
def spStandSo (K : PySem.W.Frag) (C : Addr) : Sp := fun vs H Q _ => ∃ (a p : Addr) (n : Net) (r : Rule) (t : Int) (S : List Stand) (m : Nat) (t' : Int) (S' : List Stand) (g' : List (Int × List Sign)) (sv lv : V), vs = [.ref a, .int t', sv, lv] ∧ FAt K C H a p n r t S m ∧ m ≤ 1000 ∧ Dp K H sv (encT S') ∧ Dp K H lv (encL g') ∧ LogB g' (m + 1) ∧
  ∀ H', Ex true [a, p] H H' → FAt K C H' a p n r t' S' (m + 1) → Q .non H'
theorem sc_standSo : FnScope ["self", "tick", "stands", "log"] ["self", "tick", "stands", "log"] (defScope m_stand_so) := ⟨rfl, rfl, rfl, by decide +kernel, rfl, by decide +kernel, by decide +kernel⟩
theorem c_standSo (T : Txt K mg C) : Mc P w K mg base 1 C "stand_so" (spStandSo K C) := by
  refine T.m_stand_so.mk (ps := ["self", "tick", "stands", "log"]) (fun _ _ _ _ _ _ us hl => match us, hl with | [_, _, _, _], _ => rfl) sc_standSo (fun vs H Q E h => ?_) fun f cdv A outer s H vs Q E hr h => ?_
  · obtain ⟨a, p, n, r, t, S, m, t', S', g', sv, lv, rfl, _⟩ := h
    rfl
  · obtain ⟨a, p, n, r, t, S, m, t', S', g', sv, lv, rfl, fa, hm, d1, d2, lb, k⟩ := h
    have nap := fa.ne
    obtain ⟨dx, nv, rv, b, sv0, lv0, ps, g, h1, h2, h3, h4, h5, h6, h7, h8, h9⟩ := fa.ex
    refine ⟨_, pss_cons (ps_expr (pe_bm PySem.F.plainAttrs_list PySem.F.slot_list_append PySem.F.type_list_append mt_append (pe_fld (pv 0) rfl) (pa_cons (pe_fld (pv 0) rfl) pa_nil))) (pss_one (ps_fld (pv 0) (pe_tup (pa_cons (pv 1) (pa_cons (pv 2) (pa_cons (pv 3) pa_nil)))) rfl)), ?_⟩
    refine ⟨_, rfl, a, C, dx, _, _, rfl, h1, T.cl, T.n_past, ff_past, .inl ⟨rfl, _, SqL.of h7⟩, _, rfl, a, C, dx, _, _, rfl, h1, T.cl, T.n_now, ff_now, p, ps, _, rfl, rfl, h7, (by rw [sizeLine_eq]; omega), ?_⟩
    have x1 : Ex true [a, p] H (upd H p (.lst (ps ++ [.ref b]))) := Ex.app .refl (.inl (by simp)) h7
    refine ⟨_, rfl, _, rfl, _, rfl, (by show 3 ≤ sizeLine; decide), fun q nq => ?_⟩
    have h1' : (upd H p (.lst (ps ++ [.ref b]))) a = some (.ins C dx (ff nv rv (.ref b) (.ref p))) := by rw [upd_ne nap]; exact h1
    have naq : a ≠ q := ne_of_none h1' nq
    have npq : p ≠ q := ne_of_none upd_same nq
    refine ⟨_, rfl, a, C, dx, _, rfl, (by rw [upd_ne naq]; exact h1'), T.cl, T.n_now, (by show 4 < 1000; decide), ?_⟩
    have x3 : Ex true [a, p] H (upd (upd (upd H p (.lst (ps ++ [.ref b]))) q (.tup [.int t', sv, lv])) a (.ins C dx (putF "now" (.ref q) (ff nv rv (.ref b) (.ref p))))) := (x1.new nq).put (.inl (by simp)) (fun u hu => by rw [upd_ne naq, h1'] at hu; cases hu; rfl)
    refine k _ x3 ⟨dx, nv, rv, q, sv, lv, _, g', by rw [upd_same, ff_put], x3.net h2, x3.rule h3, .of (by rw [upd_ne (Ne.symm naq), upd_same]), x3.stands d1, x3.log d2, by rw [upd_ne (Ne.symm nap), upd_ne npq, upd_same], by rw [List.length_append, List.length_singleton]; omega, lb⟩
def spTick (K : PySem.W.Frag) (C : Addr) : Sp := fun vs H Q _ => ∃ (a p : Addr) (n : Net) (r : Rule) (t : Int) (S : List Stand) (m : Nat), vs = [.ref a] ∧ FAt K C H a p n r t S m ∧ Q (.int t) H
theorem sc_tick : FnScope ["self"] ["self"] (defScope m_tick) := ⟨rfl, rfl, rfl, by decide +kernel, rfl, by decide +kernel, by decide +kernel⟩
theorem c_tick (T : Txt K mg C) : Mc P w K mg base 1 C "tick" (spTick K C) := by
  refine T.m_tick.mk (ps := ["self"]) (fun _ _ _ _ _ _ us hl => match us, hl with | [_], _ => rfl) sc_tick (fun vs H Q E h => ?_) fun f cdv A outer s H vs Q E hr h => ?_
  · obtain ⟨a, p, n, r, t, S, m, rfl, _⟩ := h
    rfl
  · obtain ⟨a, p, n, r, t, S, m, rfl, fa, k⟩ := h
    obtain ⟨dx, nv, rv, b, sv0, lv0, ps, g, h1, h2, h3, h4, h5⟩ := fa.ex
    refine ⟨_, pss_one (ps_ret (pe_ix ix_tup (pe_fld (pv 0) rfl) pe_int (fun _ _ => rfl))), ?_⟩
    exact ⟨_, rfl, a, C, dx, _, _, rfl, h1, T.cl, T.n_now, ff_now, b, _, _, _, rfl, rfl, h4, at0, k⟩
def spStands (K : PySem.W.Frag) (C : Addr) : Sp := fun vs H Q _ => ∃ (a p : Addr) (n : Net) (r : Rule) (t : Int) (S : List Stand) (m : Nat), vs = [.ref a] ∧ FAt K C H a p n r t S m ∧ ∀ v, Dp K H v (encT S) → Q v H
theorem sc_stands : FnScope ["self"] ["self"] (defScope m_stands) := ⟨rfl, rfl, rfl, by decide +kernel, rfl, by decide +kernel, by decide +kernel⟩
theorem c_stands (T : Txt K mg C) : Mc P w K mg base 1 C "stands" (spStands K C) := by
  refine T.m_stands.mk (ps := ["self"]) (fun _ _ _ _ _ _ us hl => match us, hl with | [_], _ => rfl) sc_stands (fun vs H Q E h => ?_) fun f cdv A outer s H vs Q E hr h => ?_
  · obtain ⟨a, p, n, r, t, S, m, rfl, _⟩ := h
    rfl
  · obtain ⟨a, p, n, r, t, S, m, rfl, fa, k⟩ := h
    obtain ⟨dx, nv, rv, b, sv0, lv0, ps, g, h1, h2, h3, h4, h5, _⟩ := fa.ex
    refine ⟨_, pss_one (ps_ret (pe_ix ix_tup (pe_fld (pv 0) rfl) pe_int (fun _ _ => rfl))), ?_⟩
    exact ⟨_, rfl, a, C, dx, _, _, rfl, h1, T.cl, T.n_now, ff_now, b, _, _, _, rfl, rfl, h4, at1, k _ h5⟩
theorem goS_of {n : Net} (hn : NetOk n) {r : Rule} {S S' : List Stand} {t : Int} (h : SS S') (m : ∀ u, u ∈ S' ↔ inNet n u ∧ ∃ s ∈ S, reach r t s u) : S' = goS n r S t := h.ext (Canon.go hn r S t).ss fun x => by rw [m, mem_goS hn]
def spGo (K : PySem.W.Frag) (C : Addr) : Sp := fun vs H Q _ => ∃ (a p : Addr) (n : Net) (r : Rule) (t : Int) (S : List Stand) (m : Nat) (k : Int), vs = [.ref a, .int k] ∧ FAt K C H a p n r t S m ∧ m ≤ 1000 ∧ NetOk n ∧ RuleOk r ∧ Canon n S ∧ (1 ≤ k ∧ k ≤ 60) ∧
  ∀ H', Ex true [a, p] H H' → FAt K C H' a p n r (t + k) (goS n r S k) (m + 1) → Q .non H'
theorem sc_go : FnScope ["self", "ticks", "tick", "stands", "log"] ["self", "ticks"] (defScope m_go) := ⟨rfl, rfl, rfl, by decide +kernel, rfl, by decide +kernel, by decide +kernel⟩
theorem c_go (T : Txt K mg C) : Mc P w K mg base 3 C "go" (spGo K C) := by
  refine T.m_go.mk (ps := ["self", "ticks"]) (fun _ _ _ _ _ _ us hl => match us, hl with | [_, _], _ => rfl) sc_go (fun vs H Q E h => ?_) fun f cdv A outer s H vs Q E hr h => ?_
  · obtain ⟨a, p, n, r, t, S, m, k, rfl, _⟩ := h
    rfl
  · obtain ⟨a, p, n, r, t, S, m, ti, rfl, fa, hm, nok, rok, cS, ht, k⟩ := h
    obtain ⟨dx, nv, rv, b, sv0, lv0, ps, g, h1, h2, h3, h4, h5, h6, h7, h8, h9⟩ := fa.ex
    have nd := sc_go.nd
    have hu := h65 hr
    refine ⟨_, pss_cons (ps_if (pt_not (pt_val (pe_f (c_within T) hr (pa_cons (pv 1) (pa_cons pe_int (pa_cons (pe_gi T.c_MOST_TICKS) pa_nil)))))) (pss_one ps_never) pss_nil)
      (pss_cons (ps_asg (pe_fld (pv 0) rfl) (pg_tup rfl (pgs_cons (pg_name (i := 2) nd rfl (Or.inl rfl)) (pgs_cons (pg_name (i := 3) nd rfl (Or.inl rfl)) (pgs_cons (pg_name (i := 4) nd rfl (Or.inl rfl)) pgs_nil)))))
      (pss_one (ps_expr (pe_mm (c_standSo T) T.cl hr (pv 0) (pa_cons (pe_op op_add (pv 2) (pv 1)) (pa_cons (pe_callTy call_tuple_of (by rfl) T.b_tuple (by decide +kernel) (pa_cons
        (pe_callB (cr_sortedDS hu rfl) (by rfl) T.b_sorted (by decide +kernel) (pa_cons (pe_f (c_widened T) hr (pa_cons (pe_fld (pv 0) rfl) (pa_cons (pe_fld (pv 0) rfl) (pa_cons (pv 3) (pa_cons (pv 1) pa_nil))))) pa_nil)) pa_nil)) (pa_cons (pv 4) pa_nil))))))), ?_⟩
    refine ⟨_, rfl, ti, 1, 60, rfl, ht.1, ht.2, true, rfl, iteF ?_⟩
    refine ⟨_, rfl, a, C, dx, _, _, rfl, h1, T.cl, T.n_now, ff_now, b, _, rfl, h4, rfl, _, _, rfl, _, _, rfl, _, _, rfl, rfl, ?_⟩
    refine ⟨_, rfl, a, dx, _, rfl, h1, rfl, _, rfl, _, rfl, _, _, rfl, rfl, ?_⟩
    refine ⟨_, rfl, a, C, dx, _, _, rfl, h1, T.cl, T.n_own_net, ff_net, _, rfl, a, C, dx, _, _, rfl, h1, T.cl, T.n_own_rule, ff_rule, _, rfl, _, rfl, ?_⟩
    refine ⟨nv, rv, sv0, n, r, S, ti, rfl, h2, h3, h5, nok, rok, cS.inn, cS.most nok, ht, fun H1 d S1 x1 dd nd1 m1 l1 => ?_⟩
    refine ⟨d, S1, rfl, dd, nd1, fun S2 xs2 q ss2 m2 p2 nq => ⟨q, xs2, rfl, .inl ⟨.of upd_same, fun l nl => ?_⟩⟩⟩
    have e2 : S2 = goS n r S ti := goS_of nok ss2 fun u => by rw [m2, m1]
    subst e2
    have x2 : Ex true [] H (upd (upd H1 q (.lst xs2)) l (.tup xs2)) := (x1.new nq).new nl
    have y2 : Ex true [] H1 (upd (upd H1 q (.lst xs2)) l (.tup xs2)) := (Ex.one nq).new nl
    refine ⟨_, rfl, a, p, n, r, t, S, m, t + ti, goS n r S ti, g, .ref l, lv0, rfl, fa.keep x2, hm, .ofSeq (.of upd_same) (y2.pr tt_S p2), x2.log h6, h9.up (by omega), fun H3 x3 f3 => k H3 ((Ex.nil x2).trans x3) f3⟩
end Fb
namespace Fb
open PySem PySem.Spec PyProof.Rows L2
variable {P : Program} {w : World} {K : PySem.W.Frag} {mg : Str → Option Value} {base : Heap} {C : Addr}
def spHear (K : PySem.W.Frag) (C : Addr) : Sp := fun vs H Q _ => ∃ (a p : Addr) (n : Net) (r : Rule) (t : Int) (S : List Stand) (m : Nat) (gv : V) (g : Sign), vs = [.ref a, gv] ∧ FAt K C H a p n r t S m ∧ m ≤ 1000 ∧ NetOk n ∧ Canon n S ∧ Dp K H gv (encS g) ∧ SignOk n g ∧ hearS n S g ≠ [] ∧
  ∀ H', Ex true [a, p] H H' → FAt K C H' a p n r t (hearS n S g) (m + 1) → Q .non H'
theorem sc_hear : FnScope ["self", "sign", "tick", "stands", "log", "left", "stand"] ["self", "sign"] (defScope m_hear) := ⟨rfl, rfl, rfl, by decide +kernel, rfl, by decide +kernel, by decide +kernel⟩
theorem take_filter {S : List Stand} {i : Nat} {s : Stand} (p : Stand → Bool) (h : S[i]? = some s) : (S.take (i + 1)).filter p = (S.take i).filter p ++ (if p s = true then [s] else []) := by
  rw [List.take_add_one, h, List.filter_append]
  congr 1
  by_cases hp : p s = true <;> simp [hp]
theorem snoc_cases {α : Type} (l : List α) : l = [] ∨ ∃ m e, l = m ++ [e] := by
  cases h : l.reverse with
  | nil => exact .inl (List.reverse_eq_nil_iff.mp h)
  | cons e m => exact .inr ⟨m.reverse, e, by rw [← List.reverse_reverse l, h, List.reverse_cons]⟩
theorem c_hear (T : Txt K mg C) : Mc P w K mg base 6 C "hear" (spHear K C) := by
  refine T.m_hear.mk (ps := ["self", "sign"]) (fun _ _ _ _ _ _ us hl => match us, hl with | [_, _], _ => rfl) sc_hear (fun vs H Q E h => ?_) fun f cdv A outer s H vs Q E hr h => ?_
  · obtain ⟨a, p, n, r, t, S, m, gv, g, rfl, _⟩ := h
    rfl
  · obtain ⟨a, p, n, r, t, S, m, gv, gs, rfl, fa, hm, nok, cS, hg, gok, hne, k⟩ := h
    obtain ⟨dx, nv, rv, b, sv0, lv0, ps, g, h1, h2, h3, h4, h5, h6, h7, h8, h9⟩ := fa.ex
    have nd := sc_hear.nd
    have hu := hr.units
    refine ⟨_, pss_cons (ps_expr (pe_f (c_needSign T) hr (pa_cons (pe_fld (pv 0) rfl) (pa_cons (pv 1) pa_nil))))
      (pss_cons (ps_asg (pe_fld (pv 0) rfl) (pg_tup rfl (pgs_cons (pg_name (i := 2) nd rfl (Or.inl rfl)) (pgs_cons (pg_name (i := 3) nd rfl (Or.inl rfl)) (pgs_cons (pg_name (i := 4) nd rfl (Or.inl rfl)) pgs_nil)))))
      (pss_cons (ps_set (i := 5) nd rfl (Or.inl rfl) (pe_callTy call_tuple_of (by rfl) T.b_tuple (by decide +kernel) (pa_cons
        (pe_lc (own := [("stand", 6)]) (g := gName 6) (tt := tB (tCall (spFits K) [] E0 (tCons (tFld K (tVar 0) "own_net") (tCons (tVar 6) (tCons (tVar 1) tNil))))) (te := tVar 6) rfl nd (pi_tup (pv 3))
          (blkOk_by (N := ["self", "sign", "tick", "stands", "log", "left", "stand"]) (sc := defScope m_hear) (by decide +kernel)) (fun _ _ _ _ _ => pg_name (i := 6) nd rfl (Or.inl rfl)) (fun _ _ _ _ _ => pts_one (pt_val (pe_f (c_fitsBy T) hr (pa_cons (pe_fld (pv 0) rfl) (pa_cons (pv 6) (pa_cons (pv 1) pa_nil)))))) (fun _ _ _ _ _ => pv 6)) pa_nil)))
      (pss_cons (ps_if (pt_cmpR (op_eqD hu) (pv 5) (pe_tup pa_nil) (nomark _)) (pss_one ps_never) pss_nil)
      (pss_cons (ps_if (PW.pt (pw_and (pt_cmpR (op_neD hu) (pv 4) (pe_tup pa_nil) (nomark _)) (pw_and1 (pt_cmpR op_eq (pe_ix ix_tup (pe_ix ix_tup (pv 4) (pe_un un_neg pe_int) (fun _ _ => rfl)) pe_int (fun _ _ => rfl)) (pv 2) (nomark _)))))
        (pss_one (ps_set (i := 4) nd rfl (Or.inl rfl) (pe_op op_catA (pe_slice sl_tupA (pv 4) po_none (po_some (pe_un un_neg pe_int))) (pe_tup (pa_cons (pe_tup (pa_cons (pv 2) (pa_cons (pe_op op_catA (pe_ix ix_tup (pe_ix ix_tup (pv 4) (pe_un un_neg pe_int) (fun _ _ => rfl)) pe_int (fun _ _ => rfl)) (pe_tup (pa_cons (pv 1) pa_nil))) pa_nil))) pa_nil)))))
        (pss_one (ps_set (i := 4) nd rfl (Or.inl rfl) (pe_op op_catA (pv 4) (pe_tup (pa_cons (pe_tup (pa_cons (pv 2) (pa_cons (pe_tup (pa_cons (pv 1) pa_nil)) pa_nil))) pa_nil))))))
      (pss_one (ps_expr (pe_mm (c_standSo T) T.cl hr (pv 0) (pa_cons (pv 2) (pa_cons (pv 5) (pa_cons (pv 4) pa_nil)))))))))), ?_⟩
    refine ⟨_, rfl, a, C, dx, _, _, rfl, h1, T.cl, T.n_own_net, ff_net, _, rfl, nv, gv, n, gs, rfl, h2, hg, nok, gok, fun H1 x1 => ?_⟩
    have a1 := x1.ins h1 (by simp)
    refine ⟨_, rfl, a, C, dx, _, _, rfl, a1, T.cl, T.n_now, ff_now, b, _, rfl, x1.sqT h4, rfl, _, _, rfl, _, _, rfl, _, _, rfl, rfl, ?_⟩
    obtain ⟨sa, sxs, rfl, hs, hp⟩ := h5.seq
    have hlen := hp.length
    have hmost := cS.most nok
    refine ⟨_, rfl, sa, rfl, ⟨_, x1.sqT hs⟩, fun D hD => ?_⟩
    refine lc_it walk_tup (fun i H' => Ex true [] H H' ∧ LOf K H' D ((S.take i).filter fun s => fitsB n s gs)) ⟨x1.new hD, ⟨[], upd_same, .nil⟩⟩ (fun i H' _ ⟨e, _⟩ => e.sqT hs) ?_ ?_
    · rintro i x H2 H3 hi ⟨e2, ⟨vs2, l2, p2⟩⟩ ⟨rfl, hx⟩
      obtain ⟨s1, hs1, d1⟩ := hp.at_ hx
      refine ⟨rfl, ?_⟩
      refine ⟨_, rfl, a, C, dx, _, _, rfl, e2.ins h1 (by simp), T.cl, T.n_own_net, ff_net, _, rfl, _, rfl, nv, x, gv, n, s1, gs, rfl, e2.net h2, e2.stand d1, e2.stand hg, nok, gok, fun H4 x4 => ⟨fitsB n s1 gs, rfl, ?_⟩⟩
      rw [take_filter _ hs1]
      cases hb : fitsB n s1 gs with
      | false =>
        rw [if_neg (by decide)]
        exact ⟨e2.trans x4, ⟨vs2, x4.lst l2 (by simp), by rw [if_neg (by decide), List.append_nil]; exact x4.pr tt_S p2⟩⟩
      | true =>
        rw [if_pos rfl, if_pos rfl]
        refine ⟨x, rfl, vs2, x4.lst l2 (by simp), ?_, ?_⟩
        · rw [p2.length, sizeLine_eq]
          have := List.length_filter_le (fun s => fitsB n s gs) (S.take i)
          rw [List.length_take] at this
          omega
        · have e5 : Ex true [D] H4 (upd H4 D (.lst (vs2 ++ [x]))) := Ex.app .refl (.inl (by simp)) (x4.lst l2 (by simp))
          exact ⟨(e2.trans x4).app (.inr (x1.nw hD)) (x4.lst l2 (by simp)), ⟨vs2 ++ [x], upd_same, (e5.pr tt_S (x4.pr tt_S p2)).app (.cons (e5.stand (x4.stand (e2.stand d1))) .nil)⟩⟩
    · rintro H2 ⟨e2, ⟨vs2, l2, p2⟩⟩
      rw [hlen, List.take_length] at p2
      refine ⟨D, vs2, rfl, .inl ⟨.of l2, fun q nq => ?_⟩⟩
      have e3 : Ex true [] H (upd H2 q (.tup vs2)) := e2.new nq
      have dl : Dp K (upd H2 q (.tup vs2)) (.ref q) (encT (hearS n S gs)) := .ofSeq (.of upd_same) ((Ex.one nq).pr tt_S p2)
      refine ⟨_, rfl, Nat.zero_le _, fun q2 nq2 => ?_⟩
      have e4 := e3.new (o := .tup []) nq2
      have o2 : Ex true [] (upd H2 q (.tup vs2)) (upd (upd H2 q (.tup vs2)) q2 (.tup [])) := .one nq2
      refine ⟨encT (hearS n S gs), .tuple [], o2.stands dl, .tup (.of upd_same) .nil, tt_shaped (by decide) (tt_T _), by decide, ?_⟩
      have en : PyData.eqv (encT (hearS n S gs)) (.tuple []) = false := by
        have := eqv_nil encS (hearS n S gs)
        unfold encT
        rw [this]
        cases hh : hearS n S gs with
        | nil => exact absurd hh hne
        | cons _ _ => rfl
      rw [en]
      refine ⟨false, rfl, iteF ?_⟩
      refine ⟨_, rfl, Nat.zero_le _, fun q3 nq3 => ?_⟩
      have e5 := e4.new (o := .tup []) nq3
      have o3 : Ex true [] (upd H2 q (.tup vs2)) (upd (upd (upd H2 q (.tup vs2)) q2 (.tup [])) q3 (.tup [])) := o2.new nq3
      refine ⟨encL g, .tuple [], e5.log h6, .tup (.of upd_same) .nil, tt_shaped (by decide) (tt_L _), by decide, ?_⟩
      have el : PyData.eqv (encL g) (.tuple []) = g.isEmpty := eqv_nil encE g
      rw [el]
      have o5 : ∀ {H5 : Hp}, Ex true [] (upd (upd (upd H2 q (.tup vs2)) q2 (.tup [])) q3 (.tup [])) H5 → Ex true [] H H5 := fun x5 => e5.trans x5
      have last : ∀ (H5 : Hp) (lv : V) (g' : List (Int × List Sign)), Ex true [] (upd (upd (upd H2 q (.tup vs2)) q2 (.tup [])) q3 (.tup [])) H5 → Dp K H5 lv (encL g') → LogB g' (m + 1) → ∀ (z3 z6 : Option V),
          tDrop (tMeth C "stand_so" (spStandSo K C) [] E0 (tVar 0) (tCons (tVar 2) (tCons (tVar 5) (tCons (tVar 4) tNil)))) { nx := fun _ H' => Q .non H', rt := Q } [some (.ref a), some gv, some (.int t), z3, some lv, some (.ref q), z6] H5 := fun H5 lv g' x5 d5 b5 z3 z6 => by
        have f5 := fa.keep (o5 x5)
        obtain ⟨dx', nv', rv', b', sv', lv', ps', g'', i1, _⟩ := f5.ex
        exact ⟨_, rfl, a, dx', _, rfl, i1, rfl, _, rfl, _, rfl, _, rfl, a, p, n, r, t, S, m, t, hearS n S gs, g', .ref q, lv, rfl, f5, hm, x5.stands (o3.stands dl), d5, b5, fun H6 x6 f6 => k H6 ((Ex.nil (o5 x5)).trans x6) f6⟩
      have z1 : (1 : Nat) ≤ sizeLine := by decide
      have z2 : (2 : Nat) ≤ sizeLine := by decide
      rcases snoc_cases g with rfl | ⟨g0, e, rfl⟩
      · refine ⟨false, rfl, iteF ?_⟩
        refine ⟨_, rfl, _, rfl, _, rfl, z1, fun r1 n1 => ⟨z2, fun r2 n2 => ⟨z1, fun r3 n3 => ?_⟩⟩⟩
        have y1 := e5.new (o := .tup [gv]) n1
        have w1 : Ex true [] (upd (upd (upd H2 q (.tup vs2)) q2 (.tup [])) q3 (.tup [])) (upd (upd (upd (upd H2 q (.tup vs2)) q2 (.tup [])) q3 (.tup [])) r1 (.tup [gv])) := .one n1
        have w2 := w1.new (o := .tup [.int t, .ref r1]) n2
        have w3 := w2.new (o := .tup [.ref r2]) n3
        have d1 := one_dp (K := K) (f := encS) (upd_same (H := upd (upd (upd H2 q (.tup vs2)) q2 (.tup [])) q3 (.tup [])) (a := r1) (o := .tup [gv])) (y1.stand hg)
        have v2 : Ex true [] (upd (upd (upd (upd H2 q (.tup vs2)) q2 (.tup [])) q3 (.tup [])) r1 (.tup [gv])) (upd (upd (upd (upd (upd H2 q (.tup vs2)) q2 (.tup [])) q3 (.tup [])) r1 (.tup [gv])) r2 (.tup [.int t, .ref r1])) := .one n2
        have d2 := pair_dp (K := K) (t := t) (gs := [gs]) (upd_same (H := upd (upd (upd (upd H2 q (.tup vs2)) q2 (.tup [])) q3 (.tup [])) r1 (.tup [gv])) (a := r2) (o := .tup [.int t, .ref r1])) (v2.stands (s := [gs]) d1)
        have v3 : Ex true [] (upd (upd (upd (upd (upd H2 q (.tup vs2)) q2 (.tup [])) q3 (.tup [])) r1 (.tup [gv])) r2 (.tup [.int t, .ref r1])) (upd (upd (upd (upd (upd (upd H2 q (.tup vs2)) q2 (.tup [])) q3 (.tup [])) r1 (.tup [gv])) r2 (.tup [.int t, .ref r1])) r3 (.tup [.ref r2])) := .one n3
        have d3 := one_dp (K := K) (f := encE) (x := (t, [gs])) (upd_same (H := upd (upd (upd (upd (upd H2 q (.tup vs2)) q2 (.tup [])) q3 (.tup [])) r1 (.tup [gv])) r2 (.tup [.int t, .ref r1])) (a := r3) (o := .tup [.ref r2])) (v3.dp (tt_E _) d2)
        refine cat_dp (f := encE) (l := []) (m := [(t, [gs])]) tt_E (w3.log (e5.log h6)) d3 z1 fun rr H5 x5 d5 => ?_
        exact last H5 rr _ (w3.trans x5) d5 ⟨by show 1 ≤ m + 1; omega, fun e he => by
          have : e = (t, [gs]) := by simpa using he
          subst this
          show 1 ≤ m + 1
          omega⟩ _ _
      · refine ⟨true, by simp, iteT ?_⟩
        obtain ⟨la, lxs, rfl, hl, pl⟩ := h6.seq
        obtain ⟨ys, y, rfl, pl0, pe⟩ := snocP pl
        obtain ⟨ya, yxs, rfl, hy, py⟩ := pe.t
        obtain ⟨w1, w2, rfl, q1, q2'⟩ : ∃ w1 w2, yxs = [w1, w2] ∧ Dp K H w1 (.int e.1) ∧ Dp K H w2 (encT e.2) := by
          cases py with
          | cons u1 py =>
            cases py with
            | cons u2 py =>
              cases py
              exact ⟨_, _, rfl, u1, u2⟩
        have q1 := q1.i
        subst q1
        refine ⟨_, rfl, _, rfl, la, _, _, _, rfl, rfl, e5.sqT hl, atI_last _ _, ya, _, _, _, rfl, rfl, e5.sqT hy, at0, _, rfl, ?_⟩
        have hB : (g0 ++ [e]).length ≤ m := h9.few
        have hE : e.2.length ≤ m := h9.each e (by simp)
        have h0B : g0.length + 1 ≤ m := by simpa using hB
        refine ⟨rfl, _, rfl, ?_⟩
        refine ite2 (fun hc => ?_) (fun hc => ?_)
        · have het : e.1 = t := by
            have := of_decide_eq_true hc
            injection this
          refine ⟨_, rfl, 1, rfl, -1, rfl, ?_⟩
          refine init_dp (f := encE) (l := g0) (e := e) tt_E (e5.log h6) fun r0 H4 x4 d4 => ?_
          refine ⟨_, rfl, _, rfl, 1, rfl, la, _, _, _, rfl, rfl, x4.sqT (e5.sqT hl), atI_last _ _, ya, _, _, _, rfl, rfl, x4.sqT (e5.sqT hy), at1, _, rfl, z1, fun r1 n1 => ?_⟩
          have y1 := (e5.trans x4).new (o := .tup [gv]) n1
          have v1 : Ex true [] H4 (upd H4 r1 (.tup [gv])) := .one n1
          refine cat_dp (f := encS) (l := e.2) (m := [gs]) tt_S (y1.stands q2') (one_dp (f := encS) upd_same (y1.stand hg)) (by rw [sizeLine_eq]; show e.2.length + 1 ≤ _; omega) fun r2 H6 x6 d6 => ?_
          refine ⟨z2, fun r3 n3 => ⟨z1, fun r4 n4 => ?_⟩⟩
          have v3 : Ex true [] H6 (upd H6 r3 (.tup [.int t, r2])) := .one n3
          have d3 := pair_dp (K := K) (t := t) (gs := e.2 ++ [gs]) (upd_same (H := H6) (a := r3) (o := .tup [.int t, r2])) (v3.stands d6)
          have v4 : Ex true [] (upd H6 r3 (.tup [.int t, r2])) (upd (upd H6 r3 (.tup [.int t, r2])) r4 (.tup [.ref r3])) := .one n4
          have d4' := one_dp (K := K) (f := encE) (x := (t, e.2 ++ [gs])) (upd_same (H := upd H6 r3 (.tup [.int t, r2])) (a := r4) (o := .tup [.ref r3])) (v4.dp (tt_E _) d3)
          have w4 := ((v1.trans x6).trans v3).trans v4
          refine cat_dp (f := encE) (l := g0) (m := [(t, e.2 ++ [gs])]) tt_E (w4.log d4) d4' (by rw [sizeLine_eq]; show g0.length + 1 ≤ _; omega) fun rr H7 x7 d7 => ?_
          refine last H7 rr _ ((x4.trans w4).trans x7) d7 ⟨by rw [List.length_append, List.length_singleton]; omega, fun e' he' => ?_⟩ _ _
          rcases List.mem_append.mp he' with he' | he'
          · exact Nat.le_succ_of_le (h9.each e' (List.mem_append_left _ he'))
          · have : e' = (t, e.2 ++ [gs]) := by simpa using he'
            subst this
            show (e.2 ++ [gs]).length ≤ m + 1
            rw [List.length_append, List.length_singleton]
            omega
        · refine ⟨_, rfl, _, rfl, _, rfl, z1, fun r1 n1 => ⟨z2, fun r2 n2 => ⟨z1, fun r3 n3 => ?_⟩⟩⟩
          have y1 := e5.new (o := .tup [gv]) n1
          have w1 : Ex true [] (upd (upd (upd H2 q (.tup vs2)) q2 (.tup [])) q3 (.tup [])) (upd (upd (upd (upd H2 q (.tup vs2)) q2 (.tup [])) q3 (.tup [])) r1 (.tup [gv])) := .one n1
          have w2 := w1.new (o := .tup [.int t, .ref r1]) n2
          have w3 := w2.new (o := .tup [.ref r2]) n3
          have d1 := one_dp (K := K) (f := encS) (upd_same (H := upd (upd (upd H2 q (.tup vs2)) q2 (.tup [])) q3 (.tup [])) (a := r1) (o := .tup [gv])) (y1.stand hg)
          have v2 : Ex true [] (upd (upd (upd (upd H2 q (.tup vs2)) q2 (.tup [])) q3 (.tup [])) r1 (.tup [gv])) (upd (upd (upd (upd (upd H2 q (.tup vs2)) q2 (.tup [])) q3 (.tup [])) r1 (.tup [gv])) r2 (.tup [.int t, .ref r1])) := .one n2
          have d2 := pair_dp (K := K) (t := t) (gs := [gs]) (upd_same (H := upd (upd (upd (upd H2 q (.tup vs2)) q2 (.tup [])) q3 (.tup [])) r1 (.tup [gv])) (a := r2) (o := .tup [.int t, .ref r1])) (v2.stands (s := [gs]) d1)
          have v3 : Ex true [] (upd (upd (upd (upd (upd H2 q (.tup vs2)) q2 (.tup [])) q3 (.tup [])) r1 (.tup [gv])) r2 (.tup [.int t, .ref r1])) (upd (upd (upd (upd (upd (upd H2 q (.tup vs2)) q2 (.tup [])) q3 (.tup [])) r1 (.tup [gv])) r2 (.tup [.int t, .ref r1])) r3 (.tup [.ref r2])) := .one n3
          have d3 := one_dp (K := K) (f := encE) (x := (t, [gs])) (upd_same (H := upd (upd (upd (upd (upd H2 q (.tup vs2)) q2 (.tup [])) q3 (.tup [])) r1 (.tup [gv])) r2 (.tup [.int t, .ref r1])) (a := r3) (o := .tup [.ref r2])) (v3.dp (tt_E _) d2)
          refine cat_dp (f := encE) (l := g0 ++ [e]) (m := [(t, [gs])]) tt_E (w3.log (e5.log h6)) d3 (by rw [sizeLine_eq]; show (g0 ++ [e]).length + 1 ≤ _; omega) fun rr H7 x7 d7 => ?_
          refine last H7 rr _ (w3.trans x7) d7 ⟨by rw [List.length_append, List.length_singleton]; omega, fun e' he' => ?_⟩ _ _
          rcases List.mem_append.mp he' with he' | he'
          · exact Nat.le_succ_of_le (h9.each e' he')
          · have : e' = (t, [gs]) := by simpa using he'
            subst this
            show 1 ≤ m + 1
            omega
theorem sl2 {H : Hp} {b : Addr} {t : Int} {sv lv : V} {S : List Stand} {Q : VK} (h : SqT K H b [.int t, sv, lv]) (hs : Dp K H sv (encT S)) (q : ∀ r, H r = none → Dp K (upd H r (.tup [.int t, sv])) (.ref r) (.tuple [.int t, encT S]) → Q (.ref r) (upd H r (.tup [.int t, sv]))) : rSlA K (.ref b) none (some 2) H Q := by
  refine ⟨b, _, rfl, h, fun z => absurd (show (2 : Nat) = 3 from z.2) (by decide), fun _ p np => ?_⟩
  exact q p np (.tup (.of upd_same) (.cons (.int _) (.cons ((Ex.one np).stands hs) .nil)))
theorem tt_pair (t : Int) (S : List Stand) : tt 3 (.tuple [.int t, encT S]) = true := by
  show (true && (tt 2 (encT S) && true)) = true
  rw [tt_T]
  rfl
theorem eqv_tt {k : Nat} {d : PyData} (h : tt k d = true) : PyData.eqv d d = true := SeqAt.eqv_refl d (tt_lay k d h).1
def REq (K : PySem.W.Frag) (C : Addr) (a b : Addr) (H : Hp) : Prop := ∃ p p' n r t S m m', FAt K C H a p n r t S m ∧ FAt K C H b p' n r t S m'
theorem sc_eq : FnScope ["self", "other"] ["self", "other"] (defScope m___eq__) := ⟨rfl, rfl, rfl, by decide +kernel, rfl, by decide +kernel, by decide +kernel⟩
theorem c_eq (T : Txt K mg C) : Mc P w K mg base 1 C "__eq__" (spEq (REq K C)) := by
  refine T.m___eq__.mk (ps := ["self", "other"]) (fun _ _ _ _ _ _ us hl => match us, hl with | [_, _], _ => rfl) sc_eq (fun vs H Q E h => ?_) fun f cdv A outer s H vs Q E hr h => ?_
  · obtain ⟨a, b, rfl, _⟩ := h
    rfl
  · obtain ⟨a, b, rfl, ⟨p, p', n, r, t, S, m, m', fa, fb⟩, k⟩ := h
    obtain ⟨dx, nv, rv, nw, sv, lv, ps, g, h1, h2, h3, h4, h5, _⟩ := fa.ex
    obtain ⟨dx', nv', rv', nw', sv', lv', ps', g', i1, i2, i3, i4, i5, _⟩ := fb.ex
    have hu := hr.units
    refine ⟨_, pss_cons (ps_if (pt_not (pt_val (pe_callB call_isi (by rfl) T.b_isinstance (by decide +kernel) (pa_cons (pv 1) (pa_cons (pe_glob (v := .ref C) (by rfl) T.mgC rfl) pa_nil))))) (pss_one (ps_ret pe_bl)) pss_nil)
      (pss_cons (ps_if (PW.pt (pw_or (pt_cmpR (op_neD hu) (pe_fld (pv 0) rfl) (pe_fld (pv 1) rfl) (nomark _)) (pw_or1 (pt_cmpR (op_neD hu) (pe_fld (pv 0) rfl) (pe_fld (pv 1) rfl) (nomark _))))) (pss_one (ps_ret pe_bl)) pss_nil)
      (pss_one (ps_ret (pe_cmpR (op_eqD hu) (pe_slice sl_tupA (pe_fld (pv 0) rfl) po_none (po_some pe_int)) (pe_slice sl_tupA (pe_fld (pv 1) rfl) po_none (po_some pe_int)) (nomark _))))), ?_⟩
    refine ⟨_, rfl, _, _, _, _, true, rfl, .own _, .base (.ins i1 T.cl T.kcls T.kget T.ktak T.kmro), T.kone, true, rfl, iteF ?_⟩
    refine ⟨_, rfl, a, C, dx, _, _, rfl, h1, T.cl, T.n_own_net, ff_net, _, rfl, b, C, dx', _, _, rfl, i1, T.cl, T.n_own_net, ff_net, encN n, encN n, h2, i2, tt_shaped (by decide) (tt_N n), tt_shaped (by decide) (tt_N n), ?_⟩
    rw [eqv_tt (tt_N n)]
    refine ⟨false, rfl, iteF ⟨_, rfl, a, C, dx, _, _, rfl, h1, T.cl, T.n_own_rule, ff_rule, _, rfl, b, C, dx', _, _, rfl, i1, T.cl, T.n_own_rule, ff_rule, encR r, encR r, h3, i3, tt_shaped (by decide) (tt_R r), tt_shaped (by decide) (tt_R r), ?_⟩⟩
    rw [eqv_tt (tt_R r)]
    refine ⟨false, rfl, iteF ⟨_, rfl, a, C, dx, _, _, rfl, h1, T.cl, T.n_now, ff_now, 2, rfl, ?_⟩⟩
    refine sl2 h4 h5 fun r1 n1 d1 => ?_
    have x1 : Ex true [] H (upd H r1 (.tup [.int t, sv])) := .one n1
    refine ⟨_, rfl, b, C, dx', _, _, rfl, x1.ins i1 (by simp), T.cl, T.n_now, ff_now, 2, rfl, ?_⟩
    refine sl2 (x1.sqT i4) (x1.stands i5) fun r2 n2 d2 => ?_
    have x2 : Ex true [] (upd H r1 (.tup [.int t, sv])) (upd (upd H r1 (.tup [.int t, sv])) r2 (.tup [.int t, sv'])) := .one n2
    refine ⟨.tuple [.int t, encT S], .tuple [.int t, encT S], x2.dp (tt_pair t S) d1, d2, tt_shaped (by decide) (tt_pair t S), tt_shaped (by decide) (tt_pair t S), ?_⟩
    rw [eqv_tt (tt_pair t S)]
    exact k _ (x1.trans x2).same
end Fb
namespace Fb
open PySem PySem.Spec PyProof.Rows L2
variable {P : Program} {w : World} {K : PySem.W.Frag} {mg : Str → Option Value} {base : Heap} {C : Addr}
/-! ### the law's pen -/
def PenAt (H : Hp) (p : Addr) : Prop := ∃ a b c : Int, H p = some (.lst [.int a, .int b, .int c]) ∧ 0 ≤ b ∧ b < 2147483648
def spCellAt (K : PySem.W.Frag) : Sp := fun vs H Q _ => ∃ (a : Addr) (ns : List Int) (k : Nat), vs = [.ref a, .int (k : Int)] ∧ SqL K H a (ns.map V.int) ∧ ∀ c : Int, Q (.int c) H
theorem sc_cellAt : FnScope ["_law_script", "_law_k"] ["_law_script", "_law_k"] (defScope s__law_cell_at) := ⟨rfl, rfl, rfl, by decide +kernel, rfl, by decide +kernel, by decide +kernel⟩
theorem c_cellAt (T : Txt K mg C) : Cl P w K mg base 1 "_law_cell_at" (spCellAt K) := by
  refine T.d__law_cell_at.mk (ps := ["_law_script", "_law_k"]) (fun _ _ _ _ _ _ us hl => match us, hl with | [_, _], _ => rfl) sc_cellAt (fun vs H Q E h => ?_) fun f cdv A outer s H vs Q E hr h => ?_
  · obtain ⟨a, ns, k, rfl, _⟩ := h
    rfl
  · obtain ⟨a, ns, k, rfl, ha, q⟩ := h
    refine ⟨_, pss_cons (ps_if (pt_cmpR op_lt (pv 1) (pe_callB call_len_seq (by rfl) T.b_len PySem.boot_len (pa_cons (pv 0) pa_nil)) (nomark _)) (pss_one (ps_ret (pe_ix ix_list (pv 0) (pv 1) (fun _ _ => rfl)))) pss_nil) (pss_one (ps_ret pe_int)), ?_⟩
    refine ⟨_, rfl, _, rfl, a, _, rfl, .inl ha, _, _, rfl, rfl, _, rfl, ?_⟩
    refine ite2 (fun hc => ?_) (fun hc => q 0)
    have hk : k < ns.length := by
      have := of_decide_eq_true hc
      rw [List.length_map] at this
      omega
    have e : atI (ns.map V.int) ((k : Nat) : Int) = some (.int ns[k]) := atI_nat (by rw [List.getElem?_map, List.getElem?_eq_getElem hk]; rfl)
    exact ⟨_, rfl, _, rfl, a, _, _, _, rfl, rfl, ha, e, q _⟩
def spPen : Sp := fun vs H Q _ => ∃ (c : Int), vs = [.int c] ∧ ∀ H' p, Ex true [] H H' → Nw true H p → PenAt H' p → Q (.ref p) H'
theorem sc_pen : FnScope ["_law_cell"] ["_law_cell"] (defScope s__law_pen) := ⟨rfl, rfl, rfl, by decide +kernel, rfl, by decide +kernel, by decide +kernel⟩
theorem c_pen (T : Txt K mg C) : Cl P w K mg base 1 "_law_pen" spPen := by
  refine T.d__law_pen.mk (ps := ["_law_cell"]) (fun _ _ _ _ _ _ us hl => match us, hl with | [_], _ => rfl) sc_pen (fun vs H Q E h => ?_) fun f cdv A outer s H vs Q E hr h => ?_
  · obtain ⟨c, rfl, _⟩ := h
    rfl
  · obtain ⟨c, rfl, k⟩ := h
    refine ⟨_, pss_one (ps_ret (pe_lst (pa_cons (pe_callB (call_max2 rfl) (by rfl) T.b_max (by decide +kernel) (pa_cons pe_int (pa_cons (pe_op op_sub (pv 0) (pe_op op_pow pe_int pe_int)) pa_nil))) (pa_cons (pe_op op_add (pe_op op_mod (pv 0) pe_int) pe_int) (pa_cons pe_int pa_nil))))), ?_⟩
    refine ⟨_, rfl, _, _, rfl, rfl, ⟨by decide, by decide, by decide⟩, _, _, rfl, rfl, _, _, rfl, _, rfl, _, _, rfl, rfl, (by show (0 : Int) < 2147483629; decide), _, _, rfl, rfl, (by show 3 ≤ sizeLine; decide), fun p np => ?_⟩
    exact k _ p (.one np) (.of np) ⟨_, _, _, upd_same, by omega, by omega⟩
def spDraw : Sp := fun vs H Q _ => ∃ (p : Addr) (m : Int), vs = [.ref p, .int m] ∧ PenAt H p ∧ 1 ≤ m ∧ m ≤ 1000000 ∧ ∀ H' r, Ex true [p] H H' → PenAt H' p → 0 ≤ r → r < m → Q (.int r) H'
theorem sc_draw : FnScope ["_law_pen_here", "_law_many", "_law_found", "_law_mixed"] ["_law_pen_here", "_law_many"] (defScope s__law_draw) := ⟨rfl, rfl, rfl, by decide +kernel, rfl, by decide +kernel, by decide +kernel⟩
theorem c_draw (T : Txt K mg C) : Cl P w K mg base 1 "_law_draw" spDraw := by
  refine T.d__law_draw.mk (ps := ["_law_pen_here", "_law_many"]) (fun _ _ _ _ _ _ us hl => match us, hl with | [_, _], _ => rfl) sc_draw (fun vs H Q E h => ?_) fun f cdv A outer s H vs Q E hr h => ?_
  · obtain ⟨p, m, rfl, _⟩ := h
    rfl
  · obtain ⟨p, m, rfl, ⟨a, b, c, hp, b0, b1⟩, m0, m1, k⟩ := h
    have nd := sc_draw.nd
    refine ⟨_, pss_cons (ps_if (pt_cmpR op_gt (pe_ix ix_list (pv 0) pe_int (fun _ _ => rfl)) pe_int (nomark _))
        (pss_cons (ps_set (i := 2) nd rfl (Or.inl rfl) (pe_op op_mod (pe_ix ix_list (pv 0) pe_int (fun _ _ => rfl)) (pv 1)))
        (pss_cons (ps_asg (pe_op op_fdiv (pe_ix ix_list (pv 0) pe_int (fun _ _ => rfl)) (pv 1)) (pg_sub (pv 0) pe_int set_list)) (pss_one (ps_ret (pv 2))))) pss_nil)
      (pss_cons (ps_asg (pe_op op_add (pe_ix ix_list (pv 0) pe_int (fun _ _ => rfl)) pe_int) (pg_sub (pv 0) pe_int set_list))
      (pss_cons (ps_asg (pe_op op_mod (pe_op op_add (pe_op op_add (pe_op op_mul (pe_ix ix_list (pv 0) pe_int (fun _ _ => rfl)) pe_int) (pe_op op_mul pe_int (pe_ix ix_list (pv 0) pe_int (fun _ _ => rfl)))) pe_int) pe_int) (pg_sub (pv 0) pe_int set_list))
      (pss_cons (ps_set (i := 3) nd rfl (Or.inl rfl) (pe_op op_mod (pe_op op_add (pe_op op_add (pe_op op_mul (pe_ix ix_list (pv 0) pe_int (fun _ _ => rfl)) (pe_ix ix_list (pv 0) pe_int (fun _ _ => rfl))) (pe_op op_mul pe_int (pe_ix ix_list (pv 0) pe_int (fun _ _ => rfl)))) pe_int) pe_int))
      (pss_cons (ps_set (i := 3) nd rfl (Or.inl rfl) (pe_op op_mod (pe_op op_add (pe_op op_mul (pv 3) (pv 3)) (pe_op op_mul pe_int (pv 3))) pe_int))
      (pss_one (ps_ret (pe_op op_mod (pe_op op_fdiv (pv 3) pe_int) (pv 1)))))))), ?_⟩
    have x0 : Ex true [p] H H := .refl
    refine ⟨_, rfl, p, _, _, _, rfl, rfl, .of hp, at0, _, _, rfl, rfl, _, rfl, ?_⟩
    refine ite2 (fun hc => ?_) (fun hc => ?_)
    · refine ⟨_, rfl, p, _, _, _, rfl, rfl, .of hp, at0, _, rfl, _, _, rfl, rfl, by omega, ?_⟩
      refine ⟨_, rfl, p, _, _, _, rfl, rfl, .of hp, at0, _, rfl, _, _, rfl, rfl, ⟨by omega, by omega⟩, _, rfl, p, _, 0, 0, rfl, rfl, hp, rfl, ?_⟩
      refine ⟨_, rfl, k _ _ (x0.app (.inl (by simp)) hp) ⟨_, b, c, upd_same, b0, b1⟩ (Int.emod_nonneg _ (by omega)) (Int.emod_lt_of_pos _ (by omega))⟩
    · refine ⟨_, rfl, p, _, _, _, rfl, rfl, .of hp, at2, _, _, rfl, rfl, _, rfl, p, _, 2, 2, rfl, rfl, hp, rfl, ?_⟩
      have y1 := x0.app (ys := [V.int a, V.int b, V.int (c + 1)]) (.inl (by simp)) hp
      have hp1 : (upd H p (.lst [V.int a, V.int b, V.int (c + 1)])) p = some (.lst [V.int a, V.int b, V.int (c + 1)]) := upd_same
      refine ⟨_, rfl, p, _, _, _, rfl, rfl, .of hp1, at1, _, _, rfl, rfl, .inr ⟨by decide, by decide⟩, _, rfl, p, _, _, _, rfl, rfl, .of hp1, at2, _, _, rfl, rfl, .inl ⟨by decide, by decide⟩, _, _, rfl, rfl, _, _, rfl, rfl, _, _, rfl, rfl, (by show (0 : Int) < 2147483647; decide), _, rfl, p, _, 1, 1, rfl, rfl, hp1, rfl, ?_⟩
      have hb0 : 0 ≤ ((b * 48271 + 1009 * (c + 1) + 7) % 2147483647) := Int.emod_nonneg _ (by decide)
      have hb1 : ((b * 48271 + 1009 * (c + 1) + 7) % 2147483647) < 2147483647 := Int.emod_lt_of_pos _ (by decide)
      have y2 := y1.app (ys := [V.int a, V.int ((b * 48271 + 1009 * (c + 1) + 7) % 2147483647), V.int (c + 1)]) (.inl (by simp)) hp1
      have hp2 : (upd (upd H p (.lst [V.int a, V.int b, V.int (c + 1)])) p (.lst [V.int a, V.int ((b * 48271 + 1009 * (c + 1) + 7) % 2147483647), V.int (c + 1)])) p = some (.lst [V.int a, V.int ((b * 48271 + 1009 * (c + 1) + 7) % 2147483647), V.int (c + 1)]) := upd_same
      refine ⟨_, rfl, p, _, _, _, rfl, rfl, .of hp2, at1, _, rfl, p, _, _, _, rfl, rfl, .of hp2, at1, _, _, rfl, rfl, .inl ⟨by omega, by omega⟩, _, rfl, p, _, _, _, rfl, rfl, .of hp2, at1, _, _, rfl, rfl, .inl ⟨by decide, by decide⟩, _, _, rfl, rfl, _, _, rfl, rfl, _, _, rfl, rfl, (by show (0 : Int) < 2147483629; decide), ?_⟩
      have hd0 : 0 ≤ (((b * 48271 + 1009 * (c + 1) + 7) % 2147483647) * ((b * 48271 + 1009 * (c + 1) + 7) % 2147483647) + 69621 * ((b * 48271 + 1009 * (c + 1) + 7) % 2147483647) + 11) % 2147483629 := Int.emod_nonneg _ (by decide)
      have hd1 : (((b * 48271 + 1009 * (c + 1) + 7) % 2147483647) * ((b * 48271 + 1009 * (c + 1) + 7) % 2147483647) + 69621 * ((b * 48271 + 1009 * (c + 1) + 7) % 2147483647) + 11) % 2147483629 < 2147483629 := Int.emod_lt_of_pos _ (by decide)
      refine ⟨_, rfl, _, rfl, _, _, rfl, rfl, .inl ⟨by omega, by omega⟩, _, rfl, _, _, rfl, rfl, .inl ⟨by decide, by decide⟩, _, _, rfl, rfl, _, _, rfl, rfl, (by show (0 : Int) < 2147483587; decide), ?_⟩
      refine ⟨_, rfl, _, _, rfl, rfl, ⟨by decide, by decide⟩, _, rfl, _, _, rfl, rfl, by omega, ?_⟩
      exact k _ _ y2 ⟨a, ((b * 48271 + 1009 * (c + 1) + 7) % 2147483647), c + 1, upd_same, hb0, by omega⟩ (Int.emod_nonneg _ (by omega)) (Int.emod_lt_of_pos _ (by omega))
def spPick : Sp := fun vs H Q _ => ∃ (p l : Addr) (xs : List V), vs = [.ref p, .ref l] ∧ PenAt H p ∧ H l = some (.lst xs) ∧ l ≠ p ∧ 1 ≤ xs.length ∧ xs.length ≤ 1000 ∧ ∀ H' (i : Nat) v, Ex true [p] H H' → PenAt H' p → xs[i]? = some v → Q v H'
theorem sc_pick : FnScope ["_law_pen_here", "_law_some"] ["_law_pen_here", "_law_some"] (defScope s__law_pick) := ⟨rfl, rfl, rfl, by decide +kernel, rfl, by decide +kernel, by decide +kernel⟩
theorem c_pick (T : Txt K mg C) : Cl P w K mg base 2 "_law_pick" spPick := by
  refine T.d__law_pick.mk (ps := ["_law_pen_here", "_law_some"]) (fun _ _ _ _ _ _ us hl => match us, hl with | [_, _], _ => rfl) sc_pick (fun vs H Q E h => ?_) fun f cdv A outer s H vs Q E hr h => ?_
  · obtain ⟨p, l, xs, rfl, _⟩ := h
    rfl
  · obtain ⟨p, l, xs, rfl, hp, hl, nlp, l0, l1, k⟩ := h
    refine ⟨_, pss_one (ps_ret (pe_ix ix_list (pv 1) (pe_f (c_draw T) hr (pa_cons (pv 0) (pa_cons (pe_callB call_len_seq (by rfl) T.b_len PySem.boot_len (pa_cons (pv 1) pa_nil)) pa_nil))) (fun _ _ => rfl))), ?_⟩
    refine ⟨_, rfl, _, rfl, _, rfl, l, _, rfl, .inl (.of hl), p, _, rfl, hp, by omega, by omega, fun H1 r x1 p1 r0 r1 => ?_⟩
    have hr' : r.toNat < xs.length := by omega
    exact ⟨l, xs, r, xs[r.toNat], rfl, rfl, .of (x1.lst hl (by simpa using nlp)), atI_of r0 (List.getElem?_eq_getElem hr'), k H1 r.toNat _ x1 p1 (List.getElem?_eq_getElem hr')⟩
theorem sc_lfar : FnScope ["_law_place", "_law_other"] ["_law_place", "_law_other"] (defScope s__law_far) := ⟨rfl, rfl, rfl, by decide +kernel, rfl, by decide +kernel, by decide +kernel⟩
theorem c_lfar (T : Txt K mg C) : Cl P w K mg base 1 "_law_far" (spFar K) := by
  refine T.d__law_far.mk (ps := ["_law_place", "_law_other"]) (fun _ _ _ _ _ _ us hl => match us, hl with | [_, _], _ => rfl) sc_lfar (fun vs H Q E h => ?_) fun f cdv A outer s H vs Q E hr h => ?_
  · obtain ⟨a, b, x, y, u, v, r1, r2, rfl, _⟩ := h
    rfl
  · obtain ⟨a, b, x, y, u, v, r1, r2, rfl, h1, h2, k⟩ := h
    refine ⟨_, pss_one (ps_ret (pe_callB (call_max2 rfl) (by rfl) T.b_max (by decide +kernel) (pa_cons
      (pe_callB call_abs (by rfl) T.b_abs (by decide +kernel) (pa_cons (pe_op op_sub (pe_ix ix_tup (pv 0) pe_int (fun _ _ => rfl)) (pe_ix ix_tup (pv 1) pe_int (fun _ _ => rfl))) pa_nil)) (pa_cons
      (pe_callB call_abs (by rfl) T.b_abs (by decide +kernel) (pa_cons (pe_op op_sub (pe_ix ix_tup (pv 0) pe_int (fun _ _ => rfl)) (pe_ix ix_tup (pv 1) pe_int (fun _ _ => rfl))) pa_nil)) pa_nil)))), ?_⟩
    refine ⟨_, rfl, a, _, _, _, rfl, rfl, h1, at0, _, rfl, b, _, _, _, rfl, rfl, h2, at0, _, _, rfl, rfl, _, rfl, _, rfl, a, _, _, _, rfl, rfl, h1, at1, _, rfl, b, _, _, _, rfl, rfl, h2, at1, _, _, rfl, rfl, _, rfl, _, _, rfl, k⟩
end Fb
namespace Fb
open PySem PySem.Spec PyProof.Rows L2
variable {P : Program} {w : World} {K : PySem.W.Frag} {mg : Str → Option Value} {base : Heap} {C : Addr}
/-! ### the law's nets -/
/-- a way as the law draws it -/
structure WayS (w : Way) : Prop where
  x0 : -6 ≤ w.2.1
  x1 : w.2.1 ≤ 15
  y0 : -6 ≤ w.2.2.1
  y1 : w.2.2.1 ≤ 15
  r0 : -1 ≤ w.2.2.2.1
  r1 : w.2.2.2.1 ≤ 2
  u0 : -3 ≤ w.2.2.2.2
  u1 : w.2.2.2.2 ≤ 1
theorem ints_at {ns : List Int} {i : Nat} {v : V} (h : (ns.map V.int)[i]? = some v) : ∃ c, c ∈ ns ∧ v = .int c := by
  rw [List.getElem?_map] at h
  cases e : ns[i]? with
  | none => rw [e] at h; cases h
  | some c =>
    rw [e] at h
    cases h
    exact ⟨c, List.mem_of_getElem? e, rfl⟩
theorem PenAt.keep {tb : Bool} {qs : List Addr} {H H' : Hp} {p : Addr} (h : PenAt H p) (x : Ex tb qs H H') (hp : p ∉ qs := by simp) : PenAt H' p := by
  obtain ⟨a, b, c, e, q⟩ := h
  exact ⟨a, b, c, x.lst e hp, q⟩
theorem PenAt.ne {H : Hp} {p l : Addr} (h : PenAt H p) (n : H l = none) : l ≠ p := by
  obtain ⟨a, b, c, e, q⟩ := h
  exact Ne.symm (ne_of_none e n)
/-- one of written numbers -/
theorem lit_ix {H : Hp} {l : Addr} {ns : List Int} {i : Int} {Q : VK} (hl : H l = some (.lst (ns.map V.int))) (i0 : 0 ≤ i) (i1 : i < ns.length) (q : ∀ c, c ∈ ns → Q (.int c) H) : rIxL K (.ref l) (.int i) H Q := by
  have hi : i.toNat < ns.length := by omega
  exact ⟨l, _, i, .int ns[i.toNat], rfl, rfl, .of hl, atI_of i0 (by rw [List.getElem?_map, List.getElem?_eq_getElem hi]; rfl), q _ (List.getElem_mem hi)⟩
def spWay (K : PySem.W.Frag) : Sp := fun vs H Q _ => ∃ (p : Addr) (b : Int), vs = [.ref p, .int b] ∧ PenAt H p ∧ ∀ H' r w, Ex true [p] H H' → PenAt H' p → Dp K H' r (encW w) → w.1 = b → WayS w → Q r H'
theorem sc_way : FnScope ["_law_pen_here", "_law_begin", "_law_x", "_law_y"] ["_law_pen_here", "_law_begin"] (defScope s__law_way) := ⟨rfl, rfl, rfl, by decide +kernel, rfl, by decide +kernel, by decide +kernel⟩
theorem mem5 {a b c d e x : Int} (h : x ∈ [a, b, c, d, e]) : x = a ∨ x = b ∨ x = c ∨ x = d ∨ x = e := by simpa using h
theorem c_way (T : Txt K mg C) : Cl P w K mg base 2 "_law_way" (spWay K) := by
  refine T.d__law_way.mk (ps := ["_law_pen_here", "_law_begin"]) (fun _ _ _ _ _ _ us hl => match us, hl with | [_, _], _ => rfl) sc_way (fun vs H Q E h => ?_) fun f cdv A outer s H vs Q E hr h => ?_
  · obtain ⟨p, b, rfl, _⟩ := h
    rfl
  · obtain ⟨p, b, rfl, hp, k⟩ := h
    have nd := sc_way.nd
    refine ⟨_, pss_cons (ps_par (i := 2) (j := 3) rfl nd rfl rfl (by decide) rfl rfl (pa_cons (pe_op op_sub (pe_f (c_draw T) hr (pa_cons (pv 0) (pa_cons pe_int pa_nil))) pe_int) (pa_cons (pe_op op_sub (pe_f (c_draw T) hr (pa_cons (pv 0) (pa_cons pe_int pa_nil))) pe_int) pa_nil)) (by rfl))
      (pss_one (ps_ret (pe_tup (pa_cons (pv 1) (pa_cons (pv 2) (pa_cons (pv 3) (pa_cons (pe_ix ix_list (pe_lst (pa_cons pe_int (pa_cons pe_int (pa_cons (pe_un un_neg pe_int) (pa_cons pe_int (pa_cons pe_int pa_nil)))))) (pe_f (c_draw T) hr (pa_cons (pv 0) (pa_cons pe_int pa_nil))) (fun _ _ => rfl))
        (pa_cons (pe_ix ix_list (pe_lst (pa_cons pe_int (pa_cons (pe_un un_neg pe_int) (pa_cons pe_int (pa_cons (pe_un un_neg pe_int) (pa_cons pe_int pa_nil)))))) (pe_f (c_draw T) hr (pa_cons (pv 0) (pa_cons pe_int pa_nil))) (fun _ _ => rfl)) pa_nil)))))))), ?_⟩
    refine ⟨_, rfl, p, 22, rfl, hp, by decide, by decide, fun H1 x e1 p1 x0 x1 => ⟨_, _, rfl, rfl, _, rfl, p, 22, rfl, p1, by decide, by decide, fun H2 y e2 p2 y0 y1 => ⟨_, _, rfl, rfl, _, _, rfl, ?_⟩⟩⟩
    have five : (5 : Nat) ≤ sizeLine := by decide
    refine ⟨_, rfl, _, rfl, _, rfl, 1, rfl, five, fun l1 n1 => ⟨_, rfl, p, 5, rfl, p2.keep (Ex.one n1), by decide, by decide, fun H3 i e3 p3 i0 i1 => ?_⟩⟩
    have nl1 : l1 ≠ p := p2.ne n1
    have hl1 := e3.lst (upd_same (H := H2) (a := l1) (o := .lst [.int 0, .int 1, .int (-1), .int 2, .int 0])) (by simpa using nl1)
    have y3 : Ex true [p] H H3 := (e1.trans e2).trans ((Ex.nil (Ex.one n1)).trans e3)
    refine lit_ix (ns := [0, 1, -1, 2, 0]) hl1 i0 i1 fun c1 hc1 => ?_
    refine ⟨1, rfl, 3, rfl, five, fun l2 n2 => ⟨_, rfl, p, 5, rfl, p3.keep (Ex.one n2), by decide, by decide, fun H4 j e4 p4 j0 j1 => ?_⟩⟩
    have nl2 : l2 ≠ p := p3.ne n2
    have hl2 := e4.lst (upd_same (H := H3) (a := l2) (o := .lst [.int 0, .int (-1), .int 1, .int (-3), .int 0])) (by simpa using nl2)
    have y4 : Ex true [p] H H4 := y3.trans ((Ex.nil (Ex.one n2)).trans e4)
    refine lit_ix (ns := [0, -1, 1, -3, 0]) hl2 j0 j1 fun c2 hc2 => ?_
    refine ⟨five, fun r nr => ?_⟩
    have z1 := mem5 hc1
    have z2 := mem5 hc2
    refine k _ _ (b, x - 6, y - 6, c1, c2) (y4.new nr) (p4.keep (Ex.one nr)) (Dp.ofW (.of upd_same)) rfl ⟨?_, ?_, ?_, ?_, ?_, ?_, ?_, ?_⟩ <;> (show _ ≤ _; simp only; omega)
/-- a house as the law draws it -/
structure HouseS (h : House) : Prop where
  ok : HouseOk h
  ways : ∀ w ∈ h, WayS w
def spHouse (K : PySem.W.Frag) : Sp := fun vs H Q _ => ∃ (p : Addr), vs = [.ref p] ∧ PenAt H p ∧ ∀ H' r h, Ex true [p] H H' → PenAt H' p → Dp K H' r (encH h) → HouseS h → Q r H'
theorem sc_house : FnScope ["_law_pen_here", "_law_begin", "_law_found", "_law_lap"] ["_law_pen_here"] (defScope s__law_house) := ⟨rfl, rfl, rfl, by decide +kernel, rfl, by decide +kernel, by decide +kernel⟩
theorem WayOk.of {w : Way} (h : WayS w) (b0 : 0 ≤ w.1) (b1 : w.1 ≤ 255) : WayOk w := by
  have := h.x0
  have := h.x1
  have := h.y0
  have := h.y1
  have := h.r0
  have := h.r1
  have := h.u0
  have := h.u1
  exact ⟨b0, b1, by omega, by omega, by omega, by omega, by omega, by omega, by omega, by omega⟩
/-- a list of ways -/
def WOf (K : PySem.W.Frag) (H : Hp) (D : Addr) (h : House) : Prop := ∃ vs, H D = some (.lst vs) ∧ Paired (fun v w => Dp K H v (encW w)) vs h
theorem mem4 {a b c d x : Int} (h : x ∈ [a, b, c, d]) : x = a ∨ x = b ∨ x = c ∨ x = d := by simpa using h
theorem c_house (T : Txt K mg C) : Cl P w K mg base 3 "_law_house" (spHouse K) := by
  refine T.d__law_house.mk (ps := ["_law_pen_here"]) (fun _ _ _ _ _ _ us hl => match us, hl with | [_], _ => rfl) sc_house (fun vs H Q E h => ?_) fun f cdv A outer s H vs Q E hr h => ?_
  · obtain ⟨p, rfl, _⟩ := h
    rfl
  · obtain ⟨p, rfl, hp, k⟩ := h
    have nd := sc_house.nd
    refine ⟨_, pss_cons (ps_par (i := 1) (j := 2) rfl nd rfl rfl (by decide) rfl rfl (pa_cons (pe_ix ix_list (pe_lst (pa_cons pe_int (pa_cons pe_int (pa_cons pe_int (pa_cons pe_int pa_nil))))) (pe_f (c_draw T) hr (pa_cons (pv 0) (pa_cons pe_int pa_nil))) (fun _ _ => rfl)) (pa_cons (pe_lst pa_nil) pa_nil)) (by rfl))
      (pss_cons (ps_for PassesOwn.never rfl (pi_range1 (by rfl) T.b_range (pa_cons (pe_op op_add pe_int (pe_f (c_pick T) hr (pa_cons (pv 0) (pa_cons (pe_lst (pa_cons pe_int (pa_cons pe_int (pa_cons pe_int (pa_cons pe_int pa_nil))))) pa_nil)))) pa_nil)) (pg_name (i := 3) nd rfl (Or.inl rfl))
        (pss_cons (ps_expr (pe_bm PySem.F.plainAttrs_list PySem.F.slot_list_append PySem.F.type_list_append mt_append (pv 2) (pa_cons (pe_f (c_way T) hr (pa_cons (pv 0) (pa_cons (pv 1) pa_nil))) pa_nil)))
        (pss_one (ps_set (i := 1) nd rfl (Or.inl rfl) (pe_op op_add (pe_op op_add (pv 1) pe_int) (pe_f (c_draw T) hr (pa_cons (pv 0) (pa_cons pe_int pa_nil)))))))) 
      (pss_one (ps_ret (pe_callTy call_tuple_of (by rfl) T.b_tuple (by decide +kernel) (pa_cons (pv 2) pa_nil))))), ?_⟩
    have four : (4 : Nat) ≤ sizeLine := by decide
    refine ⟨four, fun l1 n1 => ⟨_, rfl, p, 4, rfl, hp.keep (Ex.one n1), by decide, by decide, fun H1 i e1 p1 i0 i1 => ?_⟩⟩
    have nl1 : l1 ≠ p := hp.ne n1
    have hl1 := e1.lst (upd_same (H := H) (a := l1) (o := .lst [.int 0, .int 0, .int 0, .int 4])) (by simpa using nl1)
    have y1 : Ex true [p] H H1 := (Ex.nil (Ex.one n1)).trans e1
    refine lit_ix (ns := [0, 0, 0, 4]) hl1 i0 i1 fun b0 hb0 => ?_
    refine ⟨Nat.zero_le _, fun D hD => ⟨_, _, rfl, ?_⟩⟩
    have zb := mem4 hb0
    have nD : D ≠ p := p1.ne hD
    have y2 : Ex true [p] H (upd H1 D (.lst [])) := y1.new hD
    refine ⟨_, rfl, four, fun l2 n2 => ?_⟩
    have p2 : PenAt (upd H1 D (.lst [])) p := p1.keep (Ex.one hD)
    refine ⟨p, l2, _, rfl, p2.keep (Ex.one n2), upd_same, p2.ne n2, (by show 1 ≤ 4; decide), (by show 4 ≤ 1000; decide), fun H3 j v e3 p3 hv => ?_⟩
    obtain ⟨c, hc, rfl⟩ := ints_at (ns := [0, 0, 1, 2]) hv
    have zc := mem4 hc
    have y3 : Ex true [p] H H3 := y2.trans ((Ex.nil (Ex.one n2)).trans e3)
    have nDl : D ≠ l2 := ne_of_none upd_same n2
    have hD3 : H3 D = some (.lst []) := e3.lst (by rw [upd_ne nDl]; exact upd_same) (by simpa using nD)
    have nwD : Nw true H D := y1.nw hD (by simpa using nD)
    refine ⟨_, _, rfl, rfl, _, rfl, by omega, by omega, ?_⟩
    obtain ⟨N, eN⟩ : ∃ N, N = (1 + c).toNat := ⟨_, rfl⟩
    have N1 : 1 ≤ N := by omega
    have N3 : N ≤ 3 := by omega
    rw [← eN]
    refine for_it (walk_range (n := N)) (fun i σ H' => ∃ (z : Option V) (b : Int) (h : House), σ = [some (.ref p), some (.int b), some (.ref D), z] ∧ Ex true [p] H H' ∧ PenAt H' p ∧ WOf K H' D h ∧ h.length = i ∧ (∀ w ∈ h, WayS w ∧ 0 ≤ w.1 ∧ w.1 < b) ∧ (h.map (·.1)).Pairwise (· < ·) ∧ 0 ≤ b ∧ b ≤ 4 + 8 * (i : Int))
      ⟨none, b0, [], rfl, y3, p3, ⟨[], hD3, .nil⟩, rfl, (fun _ h => by cases h), .nil, by omega, by omega⟩ (fun _ _ _ _ _ => True.intro) ?_ ?_
    · rintro i x σ H4 H5 hi ⟨z, b, h, rfl, e4, p4, ⟨vs, l4, q4⟩, hl, hw, hp, hb0, hb1⟩ ⟨rfl, rfl⟩
      refine ⟨_, rfl, .inl ⟨rfl, _, SqL.of l4⟩, _, rfl, _, rfl, p, b, rfl, p4, fun H6 r w e6 p6 dw w1 ws => ?_⟩
      have hD6 := e6.lst l4 (by simpa using nD)
      refine ⟨D, vs, r, rfl, rfl, hD6, ?_, ?_⟩
      · rw [q4.length, sizeLine_eq]
        omega
      · have e7 : Ex true [D] H6 (upd H6 D (.lst (vs ++ [r]))) := Ex.app .refl (.inl (by simp)) hD6
        have z7 : Ex true [p] H (upd H6 D (.lst (vs ++ [r]))) := (e4.trans e6).app (.inr nwD) hD6
        refine ⟨_, rfl, _, _, rfl, rfl, _, rfl, p, 8, rfl, p6.keep e7 (by simpa using Ne.symm nD), by decide, by decide, fun H8 t e8 p8 t0 t1 => ⟨_, _, rfl, rfl, ?_⟩⟩
        refine ⟨_, b + 1 + t, h ++ [w], rfl, z7.trans e8, p8, ⟨vs ++ [r], e8.lst upd_same (by simpa using nD), ?_⟩, by rw [List.length_append, List.length_singleton, hl], ?_, ?_, by omega, by omega⟩
        · exact (e8.pr tt_W (e7.pr tt_W (e6.pr tt_W q4))).app (.cons (e8.dp (tt_W w) (e7.dp (tt_W w) dw)) .nil)
        · intro w' hw'
          rcases List.mem_append.mp hw' with hw' | hw'
          · obtain ⟨a1, a2, a3⟩ := hw w' hw'
            exact ⟨a1, a2, by omega⟩
          · have : w' = w := by simpa using hw'
            subst this
            exact ⟨ws, by omega, by omega⟩
        · rw [List.map_append, List.pairwise_append]
          refine ⟨hp, by simp, fun u hu v hv => ?_⟩
          obtain ⟨w', hw', rfl⟩ := List.mem_map.mp hu
          have : v = w.1 := by simpa using hv
          have := (hw w' hw').2.2
          omega
    · rintro σ H4 ⟨z, b, h, rfl, e4, p4, ⟨vs, l4, q4⟩, hl, hw, hp, hb0, hb1⟩
      refine ⟨_, rfl, D, vs, rfl, .inl ⟨.of l4, fun q nq => ?_⟩⟩
      refine k _ _ h (e4.new nq) (p4.keep (Ex.one nq)) (.ofSeq (.of upd_same) ((Ex.one nq).pr tt_W q4)) ⟨⟨by omega, by omega, fun w' hw' => ?_, hp⟩, fun w' hw' => (hw w' hw').1⟩
      obtain ⟨a1, a2, a3⟩ := hw w' hw'
      exact WayOk.of a1 a2 (by omega)
end Fb
namespace Fb
open PySem PySem.Spec PyProof.Rows L2
variable {P : Program} {w : World} {K : PySem.W.Frag} {mg : Str → Option Value} {base : Heap} {C : Addr}
structure NetS (n : Net) : Prop where
  ok : NetOk n
  hs : ∀ h ∈ n.houses, HouseS h
def spNet (K : PySem.W.Frag) : Sp := fun vs H Q _ => ∃ (p : Addr), vs = [.ref p, .int 5] ∧ PenAt H p ∧ ∀ H' r n, Ex true [p] H H' → PenAt H' p → Dp K H' r (encN n) → NetS n → Q r H'
theorem sc_lnet : FnScope ["_law_pen_here", "_law_most", "_law_wide", "_law_high", "_law_clocks", "_law_houses", "_law_lap"] ["_law_pen_here", "_law_most"] (defScope s__law_net) := ⟨rfl, rfl, rfl, by decide +kernel, rfl, by decide +kernel, by decide +kernel⟩
def HsOf (K : PySem.W.Frag) (H : Hp) (D : Addr) (h : List House) : Prop := ∃ vs, H D = some (.lst vs) ∧ Paired (fun v w => Dp K H v (encH w)) vs h
theorem c_lnet (T : Txt K mg C) : Cl P w K mg base 4 "_law_net" (spNet K) := by
  refine T.d__law_net.mk (ps := ["_law_pen_here", "_law_most"]) (fun _ _ _ _ _ _ us hl => match us, hl with | [_, _], _ => rfl) sc_lnet (fun vs H Q E h => ?_) fun f cdv A outer s H vs Q E hr h => ?_
  · obtain ⟨p, rfl, _⟩ := h
    rfl
  · obtain ⟨p, rfl, hp, k⟩ := h
    have nd := sc_lnet.nd
    refine ⟨_, pss_cons (ps_par3 (i := 2) (j := 3) (l := 4) rfl nd rfl rfl rfl (by decide) (by decide) (by decide) rfl rfl rfl (pa_cons (pe_op op_add pe_int (pe_f (c_draw T) hr (pa_cons (pv 0) (pa_cons (pv 1) pa_nil)))) (pa_cons (pe_op op_add pe_int (pe_f (c_draw T) hr (pa_cons (pv 0) (pa_cons (pv 1) pa_nil)))) (pa_cons (pe_f (c_draw T) hr (pa_cons (pv 0) (pa_cons pe_int pa_nil))) pa_nil))) (by rfl))
      (pss_cons (ps_set (i := 5) nd rfl (Or.inl rfl) (pe_callTy call_tuple_of (by rfl) T.b_tuple (by decide +kernel) (pa_cons
        (pe_lc (own := [("_law_lap", 6)]) (g := gName 6) (tt := tYes) rfl nd (pi_range1 (by rfl) T.b_range (pa_cons (pe_op op_add pe_int (pe_f (c_draw T) hr (pa_cons (pv 0) (pa_cons pe_int pa_nil)))) pa_nil))
          (blkOk_by (N := ["_law_pen_here", "_law_most", "_law_wide", "_law_high", "_law_clocks", "_law_houses", "_law_lap"]) (sc := defScope s__law_net) (by decide +kernel)) (fun _ _ _ _ _ => pg_name (i := 6) nd rfl (Or.inl rfl)) (fun _ _ _ _ _ => pts_nil) (fun _ _ _ _ _ => pe_f (c_house T) hr (pa_cons (pv 0) pa_nil))) pa_nil)))
      (pss_one (ps_ret (pe_tup (pa_cons (pv 2) (pa_cons (pv 3) (pa_cons (pv 4) (pa_cons (pe_f (c_pick T) hr (pa_cons (pv 0) (pa_cons (pe_lst (pa_cons pe_int (pa_cons pe_int (pa_cons pe_int (pa_cons pe_int pa_nil))))) pa_nil))) (pa_cons (pv 5) pa_nil))))))))), ?_⟩
    refine ⟨_, rfl, _, rfl, p, 5, rfl, hp, by decide, by decide, fun H1 x e1 p1 x0 x1 => ⟨_, _, rfl, rfl, _, rfl, _, rfl, p, 5, rfl, p1, by decide, by decide, fun H2 y e2 p2 y0 y1 => ⟨_, _, rfl, rfl, _, rfl, p, 3, rfl, p2, by decide, by decide, fun H3 z e3 p3 z0 z1 => ⟨_, _, _, rfl, ?_⟩⟩⟩⟩
    refine ⟨_, rfl, p, 4, rfl, p3, by decide, by decide, fun H4 m e4 p4 m0 m1 => ⟨_, _, rfl, rfl, _, rfl, by omega, by omega, fun D hD => ?_⟩⟩
    have y4 : Ex true [p] H H4 := ((e1.trans e2).trans e3).trans e4
    obtain ⟨N, eN⟩ : ∃ N, N = (1 + m).toNat := ⟨_, rfl⟩
    have N1 : 1 ≤ N := by omega
    have N4 : N ≤ 4 := by omega
    rw [← eN]
    have nD : D ≠ p := p4.ne hD
    have nwD : Nw true H D := y4.nw hD (by simpa using nD)
    refine lc_it (walk_range (n := N)) (fun i H' => Ex true [p] H H' ∧ PenAt H' p ∧ ∃ hs, HsOf K H' D hs ∧ hs.length = i ∧ ∀ h ∈ hs, HouseS h) ⟨y4.new hD, p4.keep (Ex.one hD), [], ⟨[], upd_same, .nil⟩, rfl, fun _ h => by cases h⟩ (fun _ _ _ _ => True.intro) ?_ ?_
    · rintro i x' H5 H6 hi ⟨e5, p5, hs, ⟨vs, l5, q5⟩, hl, hh⟩ ⟨rfl, rfl⟩
      refine ⟨rfl, _, rfl, p, rfl, p5, fun H7 r h e7 p7 dh sh => ?_⟩
      have l7 := e7.lst l5 (by simpa using nD)
      refine ⟨vs, l7, ?_, ?_⟩
      · rw [q5.length, sizeLine_eq]
        omega
      · have e8 : Ex true [D] H7 (upd H7 D (.lst (vs ++ [r]))) := Ex.app .refl (.inl (by simp)) l7
        refine ⟨(e5.trans e7).app (.inr nwD) l7, p7.keep e8 (by simpa using Ne.symm nD), hs ++ [h], ⟨vs ++ [r], upd_same, (e8.pr tt_H (e7.pr tt_H q5)).app (.cons (e8.house dh) .nil)⟩, by rw [List.length_append, List.length_singleton, hl], fun h' hh' => ?_⟩
        rcases List.mem_append.mp hh' with hh' | hh'
        · exact hh h' hh'
        · have : h' = h := by simpa using hh'
          rw [this]
          exact sh
    · rintro H5 ⟨e5, p5, hs, ⟨vs, l5, q5⟩, hl, hh⟩
      refine ⟨D, vs, rfl, .inl ⟨.of l5, fun q nq => ?_⟩⟩
      have e6 := e5.new (o := .tup vs) nq
      have p6 := p5.keep (Ex.one (o := .tup vs) nq)
      refine ⟨_, rfl, _, rfl, _, rfl, _, rfl, (by show 4 ≤ sizeLine; decide), fun l nl => ⟨p, l, _, rfl, p6.keep (Ex.one nl), upd_same, p6.ne nl, (by show 1 ≤ 4; decide), (by show 4 ≤ 1000; decide), fun H7 j v e7 p7 hv => ?_⟩⟩
      obtain ⟨c, hc, rfl⟩ := ints_at (ns := [0, 0, 1, 2]) hv
      have zc := mem4 hc
      refine ⟨_, rfl, (by show 5 ≤ sizeLine; decide), fun r nr => ?_⟩
      have o6 : Ex true [] H5 (upd H5 q (.tup vs)) := .one nq
      have nqp : q ≠ p := p5.ne nq
      have o7 : Ex true [p] (upd H5 q (.tup vs)) H7 := (Ex.nil (Ex.one nl)).trans e7
      have o8 : Ex true [] H7 (upd H7 r (.tup [.int (1 + x), .int (1 + y), .int z, .int c, .ref q])) := .one nr
      refine k _ _ ⟨1 + x, 1 + y, z, c, hs⟩ ((e6.trans o7).new nr) (p7.keep o8) (.ofN (.of upd_same) (o8.sqT (o7.sqT (.of upd_same))) (o8.pr tt_H (o7.pr tt_H (o6.pr tt_H q5)))) ⟨⟨?_, ?_, ?_, ?_, ?_, ?_, ?_, ?_, ?_, ?_, fun h hh' => (hh h hh').ok⟩, hh⟩ <;> (show _ ≤ _; simp only; omega)
def spRule (K : PySem.W.Frag) : Sp := fun vs H Q _ => ∃ (p : Addr), vs = [.ref p] ∧ PenAt H p ∧ ∀ H' v r, Ex true [p] H H' → PenAt H' p → Dp K H' v (encR r) → RuleOk r → Q v H'
theorem sc_lrule : FnScope ["_law_pen_here"] ["_law_pen_here"] (defScope s__law_rule) := ⟨rfl, rfl, rfl, by decide +kernel, rfl, by decide +kernel, by decide +kernel⟩
theorem c_lrule (T : Txt K mg C) : Cl P w K mg base 3 "_law_rule" (spRule K) := by
  refine T.d__law_rule.mk (ps := ["_law_pen_here"]) (fun _ _ _ _ _ _ us hl => match us, hl with | [_], _ => rfl) sc_lrule (fun vs H Q E h => ?_) fun f cdv A outer s H vs Q E hr h => ?_
  · obtain ⟨p, rfl, _⟩ := h
    rfl
  · obtain ⟨p, rfl, hp, k⟩ := h
    refine ⟨_, pss_one (ps_ret (pe_tup (pa_cons (pe_f (c_pick T) hr (pa_cons (pv 0) (pa_cons (pe_lst (pa_cons pe_int (pa_cons pe_int (pa_cons pe_int (pa_cons pe_int (pa_cons pe_int (pa_cons pe_int pa_nil))))))) pa_nil))) (pa_cons (pe_f (c_pick T) hr (pa_cons (pv 0) (pa_cons (pe_lst (pa_cons pe_int (pa_cons pe_int (pa_cons pe_int (pa_cons pe_int pa_nil))))) pa_nil))) pa_nil)))), ?_⟩
    refine ⟨_, rfl, (by show 6 ≤ sizeLine; decide), fun l nl => ⟨p, l, _, rfl, hp.keep (Ex.one nl), upd_same, hp.ne nl, (by show 1 ≤ 6; decide), (by show 6 ≤ 1000; decide), fun H1 j v e1 p1 hv => ?_⟩⟩
    obtain ⟨c, hc, rfl⟩ := ints_at (ns := [0, 1, 1, 1, 2, 3]) hv
    refine ⟨_, rfl, (by show 4 ≤ sizeLine; decide), fun l2 nl2 => ⟨p, l2, _, rfl, p1.keep (Ex.one nl2), upd_same, p1.ne nl2, (by show 1 ≤ 4; decide), (by show 4 ≤ 1000; decide), fun H2 j2 v2 e2 p2 hv2 => ?_⟩⟩
    obtain ⟨d, hd, rfl⟩ := ints_at (ns := [0, 0, 1, 2]) hv2
    have zd := mem4 hd
    have zc : c = 0 ∨ c = 1 ∨ c = 1 ∨ c = 1 ∨ c = 2 ∨ c = 3 := by simpa using hc
    refine ⟨(by show 2 ≤ sizeLine; decide), fun r nr => ?_⟩
    have y2 : Ex true [p] H H2 := ((Ex.nil (Ex.one nl)).trans e1).trans ((Ex.nil (Ex.one nl2)).trans e2)
    refine k _ _ (c, d) (y2.new nr) (p2.keep (Ex.one nr)) (Dp.ofP (.of upd_same)) ⟨?_, ?_, ?_, ?_⟩ <;> (show _ ≤ _; simp only; omega)
theorem sc_lplace : FnScope ["_law_house_here", "_law_tick", "_law_found", "_law_begin", "_law_x", "_law_y", "_law_right", "_law_up"] ["_law_house_here", "_law_tick"] (defScope s__law_place_at) := ⟨rfl, rfl, rfl, by decide +kernel, rfl, by decide +kernel, by decide +kernel⟩
theorem c_lplace (T : Txt K mg C) : Cl P w K mg base 1 "_law_place_at" (spPlace K) := by
  refine T.d__law_place_at.mk (ps := ["_law_house_here", "_law_tick"]) (fun _ _ _ _ _ _ us hl => match us, hl with | [_, _], _ => rfl) sc_lplace (fun vs H Q E h => ?_) fun f cdv A outer s H vs Q E hr h => ?_
  · obtain ⟨v, h, t, rfl, _⟩ := h
    rfl
  · obtain ⟨v, h, t, rfl, hv, hw, k⟩ := h
    obtain ⟨a, xs, rfl, hs, hp⟩ := hv.seq
    have nd := sc_lplace.nd
    refine ⟨_, pss_cons (ps_set (i := 2) nd rfl (Or.inl rfl) pe_non)
      (pss_cons (ps_for PassesOwn.never rfl (pi_tup (pv 0)) (pg_tup rfl (pgs_cons (pg_name (i := 3) nd rfl (Or.inl rfl)) (pgs_cons (pg_name (i := 4) nd rfl (Or.inl rfl)) (pgs_cons (pg_name (i := 5) nd rfl (Or.inl rfl))
          (pgs_cons (pg_name (i := 6) nd rfl (Or.inl rfl)) (pgs_cons (pg_name (i := 7) nd rfl (Or.inl rfl)) pgs_nil))))))
        (pss_one (ps_if (pt_cmpR op_le (pv 3) (pv 1) (nomark _))
          (pss_one (ps_set (i := 2) nd rfl (Or.inl rfl) (pe_tup (pa_cons (pe_op op_add (pv 4) (pe_op op_mul (pe_op op_sub (pv 1) (pv 3)) (pv 6))) (pa_cons (pe_op op_add (pv 5) (pe_op op_mul (pe_op op_sub (pv 1) (pv 3)) (pv 7))) pa_nil)))))
          pss_nil)))
      (pss_one (ps_ret (pv 2)))), ?_⟩
    refine ⟨_, rfl, a, rfl, ⟨_, hs⟩, for_tup (K := K) (a := a) (xs := xs) (fun i σ H' => ∃ (r : V) (z3 z4 z5 z6 z7 : Option V), σ = [some (.ref a), some (.int t), some r, z3, z4, z5, z6, z7] ∧ Ex true [] H H' ∧ OptP K H' r ((h.take i).foldl (fun f w => placeS f w t) none))
      ⟨.non, none, none, none, none, none, rfl, .refl, rfl⟩ (fun i σ H' _ ⟨_, _, _, _, _, _, _, e, _⟩ => e.sqT hs) ?_ ?_⟩
    · rintro i x σ H1 hi ⟨r, z3, z4, z5, z6, z7, rfl, e1, hr1⟩
      obtain ⟨wy, hwy, hd⟩ := hp.at_ hi
      obtain ⟨b, rfl, hb⟩ := Dp.w hd
      have hb1 := e1.sqT hb
      have wok := hw wy (List.mem_of_getElem? hwy)
      have r0 := wok.r0
      have r1 := wok.r1
      have u0 := wok.u0
      have u1 := wok.u1
      have ek : (h.take (i + 1)).foldl (fun f w => placeS f w t) none = placeS ((h.take i).foldl (fun f w => placeS f w t) none) wy t := by
        rw [List.take_add_one, hwy, List.foldl_append]
        rfl
      refine ⟨b, _, rfl, hb1, rfl, _, _, rfl, _, _, rfl, _, _, rfl, _, _, rfl, _, _, rfl, rfl, ?_⟩
      walk_at "q"
      refine ite2 (fun hc => ?_) (fun hc => ?_)
      · walk_at "q"
        refine ⟨(by show 2 ≤ sizeLine; decide), fun p np => ?_⟩
        refine ⟨.ref p, some (.int wy.1), some (.int wy.2.1), some (.int wy.2.2.1), some (.int wy.2.2.2.1), some (.int wy.2.2.2.2), rfl, e1.new np, ?_⟩
        rw [ek]
        unfold placeS
        rw [if_pos (of_decide_eq_true hc)]
        exact Dp.ofP (.of upd_same)
      · refine ⟨r, some (.int wy.1), some (.int wy.2.1), some (.int wy.2.2.1), some (.int wy.2.2.2.1), some (.int wy.2.2.2.2), rfl, e1, ?_⟩
        rw [ek]
        unfold placeS
        rw [if_neg (fun z => hc (decide_eq_true z))]
        exact hr1
    · rintro σ H1 ⟨r, z3, z4, z5, z6, z7, rfl, e1, hr1⟩
      refine ⟨_, rfl, k H1 r e1 ?_⟩
      rw [placeBy_eq]
      rw [hp.length, List.take_length] at hr1
      exact hr1
end Fb
namespace Fb
open PySem PySem.Spec PyProof.Rows L2
variable {P : Program} {w : World} {K : PySem.W.Frag} {mg : Str → Option Value} {base : Heap} {C : Addr}
def spLStands (K : PySem.W.Frag) : Sp := fun vs H Q _ => ∃ (nv : V) (n : Net), vs = [nv] ∧ Dp K H nv (encN n) ∧ NetOk n ∧ ∀ H' l xs S, Ex true [] H H' → Nw true H l → H' l = some (.lst xs) → Paired (fun v s => Dp K H' v (encS s)) xs S → (∀ s ∈ S, inNet n s) → 1 ≤ S.length → S.length ≤ 125 → Q (.ref l) H'
theorem sc_lstands : FnScope ["_law_net_here", "_law_found", "_law_x", "_law_y", "_law_off"] ["_law_net_here"] (defScope s__law_stands) := ⟨rfl, rfl, rfl, by decide +kernel, rfl, by decide +kernel, by decide +kernel⟩
theorem c_lstands (T : Txt K mg C) : Cl P w K mg base 1 "_law_stands" (spLStands K) := by
  refine T.d__law_stands.mk (ps := ["_law_net_here"]) (fun _ _ _ _ _ _ us hl => match us, hl with | [_], _ => rfl) sc_lstands (fun vs H Q E h => ?_) fun f cdv A outer s H vs Q E hr h => ?_
  · obtain ⟨v, u, rfl, _⟩ := h
    rfl
  · obtain ⟨v, n, rfl, hv, ok, k⟩ := h
    obtain ⟨a, b, hs, rfl, ha, hb, hp⟩ := hv.n
    have w0 := ok.w0
    have w1 := ok.w1
    have h0 := ok.h0
    have h1 := ok.h1
    have c0 := ok.c0
    have c1 := ok.c1
    have nd := sc_lstands.nd
    refine ⟨_, pss_cons (ps_set (i := 1) nd rfl (Or.inl rfl) (pe_lst pa_nil)) (pss_cons (ps_for PassesOwn.never rfl (pi_range1 (by rfl) T.b_range (pa_cons (pe_ix ix_tup (pv 0) pe_int (fun _ _ => rfl)) pa_nil)) (pg_name (i := 2) nd rfl (Or.inr rfl))
      (pss_one (ps_for PassesOwn.never rfl (pi_range1 (by rfl) T.b_range (pa_cons (pe_ix ix_tup (pv 0) pe_int (fun _ _ => rfl)) pa_nil)) (pg_name (i := 3) nd rfl (Or.inr rfl))
        (pss_one (ps_set (i := 1) nd rfl (Or.inl rfl) (pe_op op_cat (pv 1) (pe_lc (own := [("_law_off", 4)]) (g := gName 4) (tt := tYes) (te := tTup (tCons (tVar 2) (tCons (tVar 3) (tCons (tVar 4) tNil)))) rfl nd
          (pi_range2 (by rfl) T.b_range (pa_cons (pe_op op_sub pe_int (pe_ix ix_tup (pv 0) pe_int (fun _ _ => rfl))) (pa_cons (pe_op op_add (pe_ix ix_tup (pv 0) pe_int (fun _ _ => rfl)) pe_int) pa_nil)))
          (blkOk_by (N := ["_law_net_here", "_law_found", "_law_x", "_law_y", "_law_off"]) (sc := defScope s__law_stands) (by decide +kernel)) (fun _ _ _ _ _ => pg_name (i := 4) nd rfl (Or.inl rfl)) (fun _ _ _ _ _ => pts_nil)
          (fun _ _ _ _ _ => pe_tup (pa_cons (pv 2) (pa_cons (pv 3) (pa_cons (pv 4) pa_nil)))))))))))
      (pss_one (ps_ret (pv 1)))), ?_⟩
    refine ⟨Nat.zero_le _, fun F hF => ?_⟩
    have x0 : Ex true [] H (upd H F (.lst [])) := .one hF
    refine ⟨_, rfl, a, _, _, _, rfl, rfl, x0.sqT ha, at0, _, rfl, by omega, by omega, ?_⟩
    obtain ⟨W, eW⟩ : ∃ W, W = n.wide.toNat := ⟨_, rfl⟩
    obtain ⟨G, eG⟩ : ∃ G, G = n.high.toNat := ⟨_, rfl⟩
    obtain ⟨M, eM⟩ : ∃ M, M = (n.clocks + 1 - (0 - n.clocks)).toNat := ⟨_, rfl⟩
    rw [← eW]
    refine for_it (walk_range (n := W)) (fun i σ H' => ∃ (z2 z3 z4 : Option V) (l : Addr) (xs : List V) (S : List Stand), σ = [some (.ref a), some (.ref l), z2, z3, z4] ∧ Ex true [] H H' ∧ Nw true H l ∧ H' l = some (.lst xs) ∧ Paired (fun v s => Dp K H' v (encS s)) xs S ∧ (∀ s ∈ S, inNet n s) ∧ i ≤ S.length ∧ S.length ≤ i * 25)
      ⟨none, none, none, F, [], [], rfl, x0, .of hF, upd_same, .nil, (fun _ h => by cases h), Nat.zero_le _, Nat.zero_le _⟩ (fun _ _ _ _ _ => True.intro) ?_ ?_
    · rintro i x σ H1 H2 hi ⟨z2, z3, z4, l, xs, S, rfl, e1, nl, l1, p1, m1, lo1, hi1⟩ ⟨rfl, rfl⟩
      refine ⟨_, rfl, a, _, _, _, rfl, rfl, e1.sqT ha, at1, _, rfl, by omega, by omega, ?_⟩
      rw [← eG]
      refine for_it (walk_range (n := G)) (fun j σ H' => ∃ (z3 z4 : Option V) (l : Addr) (xs : List V) (S : List Stand), σ = [some (.ref a), some (.ref l), some (.int (0 + (i : Int))), z3, z4] ∧ Ex true [] H H' ∧ Nw true H l ∧ H' l = some (.lst xs) ∧ Paired (fun v s => Dp K H' v (encS s)) xs S ∧ (∀ s ∈ S, inNet n s) ∧ i + j ≤ S.length ∧ S.length ≤ i * 25 + j * 5)
        ⟨z3, z4, l, xs, S, rfl, e1, nl, l1, p1, m1, lo1, hi1⟩ (fun _ _ _ _ _ => True.intro) ?_ ?_
      · rintro j y σ H4 H3 hj ⟨z3', z4', l', xs', S', rfl, e3, nl', l3, p3, m3, lo3, hi3⟩ ⟨rfl, rfl⟩
        refine ⟨_, rfl, _, rfl, a, _, _, _, rfl, rfl, e3.sqT ha, at2, _, _, rfl, rfl, _, rfl, a, _, _, _, rfl, rfl, e3.sqT ha, at2, _, _, rfl, rfl, _, _, rfl, ⟨by omega, by omega, by omega, by omega⟩, fun D hD => ?_⟩
        rw [← eM]
        have nwD : Nw true H D := e3.nw hD
        have nlD : l' ≠ D := ne_of_none l3 hD
        refine lc_it (walk_range (n := M)) (fun q H' => Ex true [] H3 H' ∧ ∃ ys : List V, H' D = some (.lst ys) ∧ Paired (fun v s => Dp K H' v (encS s)) ys ((irange (0 - n.clocks) q).map fun o => ((0 + (i : Int), 0 + (j : Int), o) : Stand)))
          ⟨Ex.one hD, [], upd_same, .nil⟩ (fun _ _ _ _ => True.intro) ?_ ?_
        · rintro q x' H6 H5 hq ⟨e5, ys, l5, p5⟩ ⟨rfl, rfl⟩
          refine ⟨rfl, _, rfl, _, rfl, _, rfl, (by show 3 ≤ sizeLine; decide), fun t nt => ?_⟩
          have nDt : D ≠ t := ne_of_none l5 nt
          have o6 : Ex true [] H5 (upd H5 t (.tup [.int (0 + (i : Int)), .int (0 + (j : Int)), .int (0 - n.clocks + (q : Int))])) := .one nt
          have lD : (upd H5 t (.tup [.int (0 + (i : Int)), .int (0 + (j : Int)), .int (0 - n.clocks + (q : Int))])) D = some (.lst ys) := by rw [upd_ne nDt]; exact l5
          refine ⟨ys, lD, ?_, (e5.trans o6).app (.inr (.of hD)) lD, ys ++ [.ref t], upd_same, ?_⟩
          · rw [p5.length, List.length_map, irange_length, sizeLine_eq]
            omega
          · have o7 : Ex true [D] (upd H5 t (.tup [.int (0 + (i : Int)), .int (0 + (j : Int)), .int (0 - n.clocks + (q : Int))])) (upd (upd H5 t (.tup [.int (0 + (i : Int)), .int (0 + (j : Int)), .int (0 - n.clocks + (q : Int))])) D (.lst (ys ++ [.ref t]))) := Ex.app .refl (.inl (by simp)) lD
            rw [irange_succ, List.map_append]
            exact (o7.pr tt_S (o6.pr tt_S p5)).app (.cons (o7.stand (Dp.ofS (s := ((0 + (i : Int), 0 + (j : Int), 0 - n.clocks + (q : Int)) : Stand)) (.of upd_same))) .nil)
        · rintro H5 ⟨e5, ys, l5, p5⟩
          have l5' := e5.lst l3 (by simp)
          have hlen := p5.length
          rw [List.length_map, irange_length] at hlen
          refine ⟨l', D, xs', ys, rfl, rfl, l5', l5, ?_, fun t nt => ?_⟩
          · rw [p3.length, sizeLine_eq]
            omega
          · have e6 : Ex true [] H5 (upd H5 t (.lst (xs' ++ ys))) := .one nt
            have e35 := e3.trans e5
            refine ⟨_, _, t, xs' ++ ys, S' ++ (irange (0 - n.clocks) M).map (fun o => ((0 + (i : Int), 0 + (j : Int), o) : Stand)), rfl, e35.new nt, e35.nw nt, upd_same, e6.pr tt_S ((e5.pr tt_S p3).app p5), ?_, ?_, ?_⟩
            · intro s hs
              rcases List.mem_append.mp hs with hs | hs
              · exact m3 s hs
              · obtain ⟨o, ho, rfl⟩ := List.mem_map.mp hs
                have := mem_irange.mp ho
                unfold inNet
                simp only
                omega
            · rw [List.length_append, List.length_map, irange_length]
              omega
            · rw [List.length_append, List.length_map, irange_length]
              omega
      · rintro σ H3 ⟨z3', z4', l', xs', S', rfl, e3, nl', l3, p3, m3, lo3, hi3⟩
        exact ⟨_, z3', z4', l', xs', S', rfl, e3, nl', l3, p3, m3, by omega, by omega⟩
    · rintro σ H1 ⟨z2, z3, z4, l, xs, S, rfl, e1, nl, l1, p1, m1, lo1, hi1⟩
      exact ⟨_, rfl, k H1 l xs S e1 nl l1 p1 m1 (by omega) (by omega)⟩
end Fb
namespace Fb
open PySem PySem.Spec PyProof.Rows L2
variable {P : Program} {w : World} {K : PySem.W.Frag} {mg : Str → Option Value} {base : Heap} {C : Addr}
/-! ### signs heard -/
theorem placeFold (t : Int) : ∀ (h : House) (f : Option (Int × Int)), (∃ w ∈ h, w.1 ≤ t ∧ h.foldl (fun f w => if w.1 ≤ t then some (wayAt w t) else f) f = some (wayAt w t)) ∨ ((∀ w ∈ h, ¬ w.1 ≤ t) ∧ h.foldl (fun f w => if w.1 ≤ t then some (wayAt w t) else f) f = f)
  | [], f => .inr ⟨fun _ h => (by cases h), rfl⟩
  | w :: h, f => by
    rw [List.foldl_cons]
    rcases placeFold t h (if w.1 ≤ t then some (wayAt w t) else f) with ⟨w', h1, h2, h3⟩ | ⟨h1, h2⟩
    · exact .inl ⟨w', List.mem_cons_of_mem _ h1, h2, h3⟩
    · by_cases hw : w.1 ≤ t
      · exact .inl ⟨w, List.mem_cons_self, hw, by rw [h2, if_pos hw]⟩
      · refine .inr ⟨fun w' hw' => ?_, by rw [h2, if_neg hw]⟩
        rcases List.mem_cons.mp hw' with e | e
        · rw [e]
          exact hw
        · exact h1 w' e
theorem place_some {h : House} {t : Int} {w : Way} (hw : w ∈ h) (ht : w.1 ≤ t) : ∃ w' ∈ h, w'.1 ≤ t ∧ placeBy h t = some (wayAt w' t) := by
  rcases placeFold t h none with q | ⟨q, _⟩
  · exact q
  · exact absurd ht (q w hw)
theorem way_near {w : Way} (h : WayS w) {t : Int} (h0 : 0 ≤ w.1) (h1 : w.1 ≤ t) (h2 : t ≤ 300) : (-306 ≤ (wayAt w t).1 ∧ (wayAt w t).1 ≤ 615) ∧ (-906 ≤ (wayAt w t).2 ∧ (wayAt w t).2 ≤ 315) := by
  unfold wayAt
  simp only
  have := h.x0
  have := h.x1
  have := h.y0
  have := h.y1
  have d0 : 0 ≤ t - w.1 := by omega
  have d1 : t - w.1 ≤ 300 := by omega
  have a1 := Int.mul_le_mul_of_nonneg_left h.r0 d0
  have a2 := Int.mul_le_mul_of_nonneg_left h.r1 d0
  have a3 := Int.mul_le_mul_of_nonneg_left h.u0 d0
  have a4 := Int.mul_le_mul_of_nonneg_left h.u1 d0
  omega
theorem far_near {a b c d k : Int} (h1 : -k ≤ a - c) (h2 : a - c ≤ k) (h3 : -k ≤ b - d) (h4 : b - d ≤ k) : 0 ≤ farI a b c d ∧ farI a b c d ≤ k := by
  unfold farI maxI absI
  split <;> split <;> split <;> omega
theorem heard_ok {n : Net} (hn : NetS n) {s : Stand} (hs : inNet n s) {i t late : Int} {h : House} (i0 : 0 ≤ i) (i1 : i < (n.houses.length : Int)) (hh : n.houses.getD i.toNat [] = h) (hm : h ∈ n.houses) {w : Way} (hw : w ∈ h) (t0 : w.1 ≤ t) (t1 : t ≤ 300) (l0 : -n.slip ≤ late) (l1 : late ≤ n.slip) :
    ∃ p, placeBy h t = some p ∧ SignOk n (i, t, t + farI p.1 p.2 s.1 s.2.1 + s.2.2 + late) ∧ fitsB n s (i, t, t + farI p.1 p.2 s.1 s.2.1 + s.2.2 + late) = true := by
  obtain ⟨w', hw', hb, hp⟩ := place_some hw t0
  have S := hn.hs h hm
  have ok0 := S.ok.ways w hw
  have ok1 := S.ok.ways w' hw'
  have := ok0.b0
  have := ok1.b0
  have nr := way_near (S.ways w' hw') ok1.b0 hb t1
  have := hn.ok.w1
  have := hn.ok.h1
  have := hn.ok.c1
  have := hn.ok.s1
  have := hn.ok.s0
  unfold inNet at hs
  have fr := far_near (a := (wayAt w' t).1) (b := (wayAt w' t).2) (c := s.1) (d := s.2.1) (k := 1000) (by omega) (by omega) (by omega) (by omega)
  refine ⟨_, hp, ⟨i0, i1, by show 0 ≤ t; omega, t1, by show -3000 ≤ t + farI (wayAt w' t).1 (wayAt w' t).2 s.1 s.2.1 + s.2.2 + late; omega, by show t + farI (wayAt w' t).1 (wayAt w' t).2 s.1 s.2.1 + s.2.2 + late ≤ 3000; omega, ⟨_, by show placeBy (n.houses.getD i.toNat []) t = _; rw [hh]; exact hp⟩⟩, ?_⟩
  have ed : dueAt n s (i, t, t + farI (wayAt w' t).1 (wayAt w' t).2 s.1 s.2.1 + s.2.2 + late) = t + farI (wayAt w' t).1 (wayAt w' t).2 s.1 s.2.1 + s.2.2 := by
    unfold dueAt
    simp only
    rw [hh, hp]
  unfold fitsB
  rw [ed, Bool.and_eq_true, decide_eq_true_iff, decide_eq_true_iff]
  simp only
  omega
def spHeard (K : PySem.W.Frag) : Sp := fun vs H Q _ => ∃ (p : Addr) (nv sv : V) (n : Net) (s : Stand), vs = [.ref p, nv, sv, .int 0] ∧ PenAt H p ∧ Dp K H nv (encN n) ∧ Dp K H sv (encS s) ∧ NetS n ∧ inNet n s ∧ ∀ H' v g, Ex true [p] H H' → PenAt H' p → Dp K H' v (encS g) → SignOk n g → fitsB n s g = true → Q v H'
theorem sc_heard : FnScope ["_law_pen_here", "_law_net_here", "_law_stand", "_law_beyond", "_law_house_here", "_law_sent", "_law_late"] ["_law_pen_here", "_law_net_here", "_law_stand", "_law_beyond"] (defScope s__law_heard) := ⟨rfl, rfl, rfl, by decide +kernel, rfl, by decide +kernel, by decide +kernel⟩
theorem c_heard (T : Txt K mg C) : Cl P w K mg base 2 "_law_heard" (spHeard K) := by
  refine T.d__law_heard.mk (ps := ["_law_pen_here", "_law_net_here", "_law_stand", "_law_beyond"]) (fun _ _ _ _ _ _ us hl => match us, hl with | [_, _, _, _], _ => rfl) sc_heard (fun vs H Q E h => ?_) fun f cdv A outer s H vs Q E hr h => ?_
  · obtain ⟨p, nv, sv, n, s, rfl, _⟩ := h
    rfl
  · obtain ⟨p, nv, sv, n, st, rfl, hp, hn, hs, nok, sin, k⟩ := h
    obtain ⟨a, b, hl, rfl, ha, hb, hpp⟩ := hn.n
    obtain ⟨c, rfl, hc⟩ := hs.s
    have nd := sc_heard.nd
    have s0 := nok.ok.s0
    have s1 := nok.ok.s1
    have l0 := nok.ok.l0
    have l1 := nok.ok.l1
    refine ⟨_, pss_cons (ps_set (i := 4) nd rfl (Or.inl rfl) (pe_f (c_draw T) hr (pa_cons (pv 0) (pa_cons (pe_callB call_len_seq (by rfl) T.b_len PySem.boot_len (pa_cons (pe_ix ix_tup (pv 1) pe_int (fun _ _ => rfl)) pa_nil)) pa_nil))))
      (pss_cons (ps_set (i := 5) nd rfl (Or.inl rfl) (pe_op op_add (pe_ix ix_tup (pe_ix ix_tup (pe_ix ix_tup (pe_ix ix_tup (pv 1) pe_int (fun _ _ => rfl)) (pv 4) (fun _ _ => rfl)) pe_int (fun _ _ => rfl)) pe_int (fun _ _ => rfl)) (pe_f (c_draw T) hr (pa_cons (pv 0) (pa_cons pe_int pa_nil)))))
      (pss_cons (ps_set (i := 6) nd rfl (Or.inl rfl) (pe_op op_add (pe_op op_sub (pe_f (c_draw T) hr (pa_cons (pv 0) (pa_cons (pe_op op_add (pe_op op_mul pe_int (pe_ix ix_tup (pv 1) pe_int (fun _ _ => rfl))) pe_int) pa_nil))) (pe_ix ix_tup (pv 1) pe_int (fun _ _ => rfl))) (pv 3)))
      (pss_one (ps_ret (pe_tup (pa_cons (pv 4) (pa_cons (pv 5) (pa_cons (pe_op op_add (pe_op op_add (pe_op op_add (pv 5) (pe_f (c_lfar T) hr (pa_cons (pe_f (c_lplace T) hr (pa_cons (pe_ix ix_tup (pe_ix ix_tup (pv 1) pe_int (fun _ _ => rfl)) (pv 4) (fun _ _ => rfl)) (pa_cons (pv 5) pa_nil)))
        (pa_cons (pe_slice sl_tup (pv 2) po_none (po_some pe_int)) pa_nil)))) (pe_ix ix_tup (pv 2) pe_int (fun _ _ => rfl))) (pv 6)) pa_nil)))))))), ?_⟩
    have hll := hpp.length
    refine ⟨_, rfl, _, rfl, a, _, _, _, rfl, rfl, ha, at4, b, _, rfl, .inr hb, p, _, rfl, hp, by omega, by omega, fun H1 i e1 p1 i0 i1 => ?_⟩
    have hil : i.toNat < n.houses.length := by omega
    obtain ⟨hv, ehv, dh⟩ := hpp.to (List.getElem?_eq_getElem hil)
    have hmem : n.houses[i.toNat] ∈ n.houses := List.getElem_mem hil
    have hget : n.houses.getD i.toNat [] = n.houses[i.toNat] := by rw [List.getD_eq_getElem?_getD, List.getElem?_eq_getElem hil]; rfl
    obtain ⟨hh, ehh⟩ : ∃ hh, hh = n.houses[i.toNat] := ⟨_, rfl⟩
    rw [← ehh] at dh hmem hget
    have S := nok.hs hh hmem
    obtain ⟨ba, bx, rfl, hba, pw⟩ := dh.seq
    have hw0 : 0 < hh.length := by have := S.ok.l0; omega
    obtain ⟨wv, ewv, dw⟩ := pw.to (List.getElem?_eq_getElem hw0)
    have wmem : hh[0] ∈ hh := List.getElem_mem hw0
    obtain ⟨w0, ew0⟩ : ∃ w0, w0 = hh[0] := ⟨_, rfl⟩
    rw [← ew0] at dw wmem
    obtain ⟨wa, rfl, hwa⟩ := dw.w
    have wok := S.ok.ways w0 wmem
    have b0 := wok.b0
    have b1 := wok.b1
    refine ⟨_, rfl, a, _, _, _, rfl, rfl, e1.sqT ha, at4, _, rfl, b, _, _, _, rfl, rfl, e1.sqT hb, atI_of i0 ehv, ba, _, _, _, rfl, rfl, e1.sqT hba, atI_nat (j := 0) ewv, wa, _, _, _, rfl, rfl, e1.sqT hwa, at0, _, rfl, p, 12, rfl, p1, by decide, by decide, fun H2 t e2 p2 t0 t1 => ⟨_, _, rfl, rfl, ?_⟩⟩
    have e12 := e1.trans e2
    refine ⟨_, rfl, _, rfl, a, _, _, _, rfl, rfl, e12.sqT ha, at3, _, _, rfl, rfl, .inl ⟨by decide, by decide⟩, _, _, rfl, rfl, p, _, rfl, p2, by omega, by omega, fun H3 u e3 p3 u0 u1 => ?_⟩
    have e13 := e12.trans e3
    refine ⟨_, rfl, a, _, _, _, rfl, rfl, e13.sqT ha, at3, _, _, rfl, rfl, _, rfl, _, _, rfl, rfl, ?_⟩
    obtain ⟨q, hq, sok, fit⟩ := heard_ok nok sin (i := i) (t := w0.1 + t) (late := u - n.slip + 0) i0 (by omega) hget hmem wmem (by omega) (by omega) (by omega) (by omega)
    refine ⟨_, rfl, _, rfl, _, rfl, _, rfl, a, _, _, _, rfl, rfl, e13.sqT ha, at4, _, rfl, b, _, _, _, rfl, rfl, e13.sqT hb, atI_of i0 ehv, _, rfl, .ref ba, hh, _, rfl, e13.house (.ofSeq hba pw), S.ok.ways, fun H4 r e4 o4 => ?_⟩
    rw [hq] at o4
    obtain ⟨qa, rfl, hqa⟩ := Dp.p o4
    have e14 : Ex true [p] H H4 := e13.trans (Ex.nil e4)
    refine ⟨_, rfl, 2, rfl, c, _, rfl, e14.sqT hc, (fun z => absurd (show (2 : Nat) = 3 from z.2) (by decide)), fun p' np => ?_⟩
    have e5 : Ex true [p] H (upd H4 p' (.tup [.int st.1, .int st.2.1])) := e14.new np
    refine ⟨qa, p', q.1, q.2, st.1, st.2.1, [], [], rfl, (Ex.one np).sqT hqa, .of upd_same, ?_⟩
    refine ⟨_, _, rfl, rfl, _, rfl, c, _, _, _, rfl, rfl, e5.sqT hc, at2, _, _, rfl, rfl, _, rfl, _, _, rfl, rfl, (by show 3 ≤ sizeLine; decide), fun r nr => ?_⟩
    refine k _ _ (i, w0.1 + t, w0.1 + t + farI q.1 q.2 st.1 st.2.1 + st.2.2 + (u - n.slip + 0)) (e5.new nr) ((p3.keep e4).keep ((Ex.one np).new nr)) (Dp.ofS (.of upd_same)) sok fit
end Fb
namespace Fb
open PySem PySem.Spec PyProof.Rows L2
variable {P : Program} {w : World} {K : PySem.W.Frag} {mg : Str → Option Value} {base : Heap} {C : Addr}
/-! ### a step -/
def q3 (n : Net) (r : Rule) (s : Stand) : List (Int × Int × Int × Int) := [(s.1, 0, n.wide - 1, r.1), (s.2.1, 0, n.high - 1, r.1), (s.2.2, 0 - n.clocks, n.clocks, r.2)]
def Mv (t : Int) (q : Int × Int × Int × Int) (c : Int) : Prop := (q.2.1 ≤ c ∧ c ≤ q.2.2.1) ∧ (-(q.2.2.2 * t) ≤ c - q.1 ∧ c - q.1 ≤ q.2.2.2 * t)
theorem q3_at {n : Net} {r : Rule} {s : Stand} {i : Nat} (hi : i < 3) {b0 b1 b2 : Addr} {x y z : V} (hx : ([.int s.1, .int s.2.1, .int s.2.2] : List V)[i]? = some x) (hy : ([.ref b0, .ref b1, .ref b2] : List V)[i]? = some y) (hz : ([.int r.1, .int r.1, .int r.2] : List V)[i]? = some z)
    {H : Hp} (h0 : SqT K H b0 [.int 0, .int (n.wide - 1)]) (h1 : SqT K H b1 [.int 0, .int (n.high - 1)]) (h2 : SqT K H b2 [.int (0 - n.clocks), .int n.clocks]) :
    ∃ q b, (q3 n r s)[i]? = some q ∧ x = .int q.1 ∧ y = .ref b ∧ z = .int q.2.2.2 ∧ SqT K H b [.int q.2.1, .int q.2.2.1] := by
  match i, hi, hx, hy, hz with
  | 0, _, hx, hy, hz => cases hx; cases hy; cases hz; exact ⟨_, b0, rfl, rfl, rfl, rfl, h0⟩
  | 1, _, hx, hy, hz => cases hx; cases hy; cases hz; exact ⟨_, b1, rfl, rfl, rfl, rfl, h1⟩
  | 2, _, hx, hy, hz => cases hx; cases hy; cases hz; exact ⟨_, b2, rfl, rfl, rfl, rfl, h2⟩
theorem q3_ok {n : Net} (hn : NetOk n) {r : Rule} (hr : RuleOk r) {s : Stand} (hs : inNet n s) {q : Int × Int × Int × Int} (h : q ∈ q3 n r s) : q.2.1 ≤ q.1 ∧ q.1 ≤ q.2.2.1 ∧ 0 ≤ q.2.2.2 ∧ q.2.2.2 ≤ 3 := by
  have := hr.f0
  have := hr.f1
  have := hr.d0
  have := hr.d1
  unfold inNet at hs
  unfold q3 at h
  simp only [List.mem_cons, List.not_mem_nil, or_false] at h
  rcases h with rfl | rfl | rfl <;> (simp only; omega)
theorem clamp_ok {t d a lo hi b : Int} (h1 : lo ≤ a) (h2 : a ≤ hi) (d0 : 0 ≤ d) (d1 : d < 2 * b * t + 1) (bt : 0 ≤ b * t) :
    Mv t (a, lo, hi, b) (if (if a + d - b * t < hi then a + d - b * t else hi) > lo then (if a + d - b * t < hi then a + d - b * t else hi) else lo) := by
  have e : 2 * b * t = 2 * (b * t) := Int.mul_assoc 2 b t
  unfold Mv
  simp only
  split <;> split <;> omega
def spStep (K : PySem.W.Frag) : Sp := fun vs H Q _ => ∃ (p : Addr) (nv rv sv : V) (n : Net) (r : Rule) (s : Stand) (t : Int), vs = [.ref p, nv, rv, sv, .int t] ∧ PenAt H p ∧ Dp K H nv (encN n) ∧ Dp K H rv (encR r) ∧ Dp K H sv (encS s) ∧ NetOk n ∧ RuleOk r ∧ inNet n s ∧ 1 ≤ t ∧ t ≤ 4 ∧
  ∀ H' v s', Ex true [p] H H' → PenAt H' p → Dp K H' v (encS s') → inNet n s' → reach r t s s' → Q v H'
theorem sc_step : FnScope ["_law_pen_here", "_law_net_here", "_law_rule_here", "_law_stand", "_law_ticks", "_law_bounds", "_law_found", "_law_number", "_law_low", "_law_high", "_law_by"] ["_law_pen_here", "_law_net_here", "_law_rule_here", "_law_stand", "_law_ticks"] (defScope s__law_step) := ⟨rfl, rfl, rfl, by decide +kernel, rfl, by decide +kernel, by decide +kernel⟩
theorem c_step (T : Txt K mg C) : Cl P w K mg base 2 "_law_step" (spStep K) := by
  refine T.d__law_step.mk (ps := ["_law_pen_here", "_law_net_here", "_law_rule_here", "_law_stand", "_law_ticks"]) (fun _ _ _ _ _ _ us hl => match us, hl with | [_, _, _, _, _], _ => rfl) sc_step (fun vs H Q E h => ?_) fun f cdv A outer s H vs Q E hr h => ?_
  · obtain ⟨p, nv, rv, sv, n, r, s, t, rfl, _⟩ := h
    rfl
  · obtain ⟨p, nv, rv, sv, n, r, st, t, rfl, hp, hn, hrv, hs, nok, rok, sin, t0, t1, k⟩ := h
    obtain ⟨a, b, hl, rfl, ha, hb, hpp⟩ := hn.n
    obtain ⟨c, rfl, hc⟩ := hs.s
    obtain ⟨e, rfl, he⟩ := hrv.r
    have nd := sc_step.nd
    refine ⟨_, pss_cons (ps_par (i := 5) (j := 6) rfl nd rfl rfl (by decide) rfl rfl (pa_cons (pe_lst (pa_cons (pe_tup (pa_cons pe_int (pa_cons (pe_op op_sub (pe_ix ix_tup (pv 1) pe_int (fun _ _ => rfl)) pe_int) pa_nil))) (pa_cons (pe_tup (pa_cons pe_int (pa_cons (pe_op op_sub (pe_ix ix_tup (pv 1) pe_int (fun _ _ => rfl)) pe_int) pa_nil)))
        (pa_cons (pe_tup (pa_cons (pe_op op_sub pe_int (pe_ix ix_tup (pv 1) pe_int (fun _ _ => rfl))) (pa_cons (pe_ix ix_tup (pv 1) pe_int (fun _ _ => rfl)) pa_nil))) pa_nil)))) (pa_cons (pe_lst pa_nil) pa_nil)) (by rfl))
      (pss_cons (ps_for PassesOwn.never rfl (pi_zip3 (by rfl) T.b_zip (pa_cons (pv 3) (pa_cons (pv 5) (pa_cons (pe_lst (pa_cons (pe_ix ix_tup (pv 2) pe_int (fun _ _ => rfl)) (pa_cons (pe_ix ix_tup (pv 2) pe_int (fun _ _ => rfl)) (pa_cons (pe_ix ix_tup (pv 2) pe_int (fun _ _ => rfl)) pa_nil)))) pa_nil))))
          (pg_tup rfl (pgs_cons (pg_name (i := 7) nd rfl (Or.inl rfl)) (pgs_cons (pg_tup rfl (pgs_cons (pg_name (i := 8) nd rfl (Or.inl rfl)) (pgs_cons (pg_name (i := 9) nd rfl (Or.inl rfl)) pgs_nil))) (pgs_cons (pg_name (i := 10) nd rfl (Or.inl rfl)) pgs_nil))))
        (pss_one (ps_expr (pe_bm PySem.F.plainAttrs_list PySem.F.slot_list_append PySem.F.type_list_append mt_append (pv 6) (pa_cons (pe_callB (call_max2 rfl) (by rfl) T.b_max (by decide +kernel) (pa_cons (pv 8) (pa_cons (pe_callB (call_min2 rfl) (by rfl) T.b_min (by decide +kernel) (pa_cons (pv 9) (pa_cons
          (pe_op op_sub (pe_op op_add (pv 7) (pe_f (c_draw T) hr (pa_cons (pv 0) (pa_cons (pe_op op_add (pe_op op_mul (pe_op op_mul pe_int (pv 10)) (pv 4)) pe_int) pa_nil)))) (pe_op op_mul (pv 10) (pv 4))) pa_nil))) pa_nil))) pa_nil)))))
      (pss_one (ps_ret (pe_callTy call_tuple_of (by rfl) T.b_tuple (by decide +kernel) (pa_cons (pv 6) pa_nil))))), ?_⟩
    have z2 : (2 : Nat) ≤ sizeLine := by decide
    have z3 : (3 : Nat) ≤ sizeLine := by decide
    refine ⟨_, rfl, a, _, _, _, rfl, rfl, ha, at0, _, _, rfl, rfl, z2, fun b0 n0 => ?_⟩
    have x0 : Ex true [] H (upd H b0 (.tup [.int 0, .int (n.wide - 1)])) := .one n0
    refine ⟨_, rfl, a, _, _, _, rfl, rfl, x0.sqT ha, at1, _, _, rfl, rfl, z2, fun b1 n1 => ?_⟩
    have x1 := x0.new (o := .tup [.int 0, .int (n.high - 1)]) n1
    refine ⟨_, rfl, a, _, _, _, rfl, rfl, x1.sqT ha, at2, _, _, rfl, rfl, _, rfl, a, _, _, _, rfl, rfl, x1.sqT ha, at2, z2, fun b2 n2 => ?_⟩
    have x2 := x1.new (o := .tup [.int (0 - n.clocks), .int n.clocks]) n2
    refine ⟨z3, fun B hB => ⟨Nat.zero_le _, fun F hF => ⟨_, _, rfl, ?_⟩⟩⟩
    have x3 := x2.new (o := .lst [.ref b0, .ref b1, .ref b2]) hB
    have x4 := x3.new (o := .lst []) hF
    refine ⟨_, rfl, _, rfl, _, rfl, e, _, _, _, rfl, rfl, x4.sqT he, at0, _, rfl, e, _, _, _, rfl, rfl, x4.sqT he, at0, _, rfl, e, _, _, _, rfl, rfl, x4.sqT he, at1, z3, fun G hG => ?_⟩
    have x5 := x4.new (o := .lst [.int r.1, .int r.1, .int r.2]) hG
    have hb1 : Ex true [] (upd H b0 (.tup [.int 0, .int (n.wide - 1)])) (upd (upd H b0 (.tup [.int 0, .int (n.wide - 1)])) b1 (.tup [.int 0, .int (n.high - 1)])) := .one n1
    have hb2 : Ex true [] (upd (upd H b0 (.tup [.int 0, .int (n.wide - 1)])) b1 (.tup [.int 0, .int (n.high - 1)])) (upd (upd (upd H b0 (.tup [.int 0, .int (n.wide - 1)])) b1 (.tup [.int 0, .int (n.high - 1)])) b2 (.tup [.int (0 - n.clocks), .int n.clocks])) := .one n2
    obtain ⟨H3, eH3⟩ : ∃ H3, H3 = upd (upd (upd H b0 (.tup [.int 0, .int (n.wide - 1)])) b1 (.tup [.int 0, .int (n.high - 1)])) b2 (.tup [.int (0 - n.clocks), .int n.clocks]) := ⟨_, rfl⟩
    have t0' : SqT K H3 b0 [.int 0, .int (n.wide - 1)] := by rw [eH3]; exact hb2.sqT (hb1.sqT (.of upd_same))
    have t1' : SqT K H3 b1 [.int 0, .int (n.high - 1)] := by rw [eH3]; exact hb2.sqT (.of upd_same)
    have t2' : SqT K H3 b2 [.int (0 - n.clocks), .int n.clocks] := by rw [eH3]; exact .of upd_same
    rw [← eH3] at hB hF hG x2 x3 x4 x5 ⊢
    have y3 : Ex true [] H3 (upd H3 B (.lst [.ref b0, .ref b1, .ref b2])) := .one hB
    have y4 := y3.new (o := .lst []) hF
    have y5 := y4.new (o := .lst [.int r.1, .int r.1, .int r.2]) hG
    have nBF : B ≠ F := ne_of_none upd_same hF
    have lB4 : (upd (upd H3 B (.lst [.ref b0, .ref b1, .ref b2])) F (.lst [])) B = some (.lst [.ref b0, .ref b1, .ref b2]) := by rw [upd_ne nBF]; exact upd_same
    have nBG : B ≠ G := ne_of_none lB4 hG
    have nFG : F ≠ G := ne_of_none upd_same hG
    have lB5 : (upd (upd (upd H3 B (.lst [.ref b0, .ref b1, .ref b2])) F (.lst [])) G (.lst [.int r.1, .int r.1, .int r.2])) B = some (.lst [.ref b0, .ref b1, .ref b2]) := by rw [upd_ne nBG]; exact lB4
    have lF5 : (upd (upd (upd H3 B (.lst [.ref b0, .ref b1, .ref b2])) F (.lst [])) G (.lst [.int r.1, .int r.1, .int r.2])) F = some (.lst []) := by rw [upd_ne nFG]; exact upd_same
    have p3 : PenAt H3 p := hp.keep x2
    have p5 := p3.keep y5
    have nBp : B ≠ p := p3.ne hB
    have nFp : F ≠ p := (p3.keep y3).ne hF
    have nGp : G ≠ p := (p3.keep y4).ne hG
    have nwF : Nw true H F := x3.nw hF
    refine ⟨c, B, G, _, _, _, rfl, x5.sqT hc, .of lB5, .of upd_same, ?_⟩
    refine for_it (walk_zip3 (n := 3) rfl rfl rfl) (fun i σ H' => ∃ (z7 z8 z9 z10 : Option V) (cs : List Int), σ = [some (.ref p), some (.ref a), some (.ref e), some (.ref c), some (.int t), some (.ref B), some (.ref F), z7, z8, z9, z10] ∧ Ex true [p] H H' ∧ Ex true [p, F] (upd (upd (upd H3 B (.lst [.ref b0, .ref b1, .ref b2])) F (.lst [])) G (.lst [.int r.1, .int r.1, .int r.2])) H' ∧ PenAt H' p ∧ H' F = some (.lst (cs.map V.int)) ∧ Paired (fun q c => Mv t q c) ((q3 n r st).take i) cs)
      ⟨none, none, none, none, [], rfl, Ex.nil x5, .refl, p5, lF5, .nil⟩ (fun i σ H' _ ⟨_, _, _, _, _, _, e1, e2, _⟩ => ⟨e1.sqT hc, e2.sqF (.of lB5) (fun _ => by simp [nBp, nBF]), e2.sqF (.of upd_same) (fun _ => by simp [nGp, Ne.symm nFG])⟩) ?_ ?_
    · rintro i x σ H7 H8 hi ⟨z7, z8, z9, z10, cs, rfl, e7, o7, p7, l7, m7⟩ ⟨T1, u1, u2, u3, rfl, nT, rfl, g1, g2, g3⟩
      have o8 : Ex true [] H7 (upd H7 T1 (.tup [u1, u2, u3])) := .one nT
      have w7 := y5.nil (ps := [p, F])
      obtain ⟨q, bb, hq, rfl, rfl, rfl, hbb⟩ := q3_at (K := K) hi g1 g2 g3 ((w7.trans o7).sqT t0') ((w7.trans o7).sqT t1') ((w7.trans o7).sqT t2')
      obtain ⟨qa, qlo, qhi, qby⟩ := q
      have qok := q3_ok nok rok sin (List.mem_of_getElem? hq)
      simp only at qok hbb
      have l8 := o8.lst l7 (by simp)
      refine ⟨T1, _, rfl, .of upd_same, rfl, _, _, rfl, _, _, rfl, bb, _, rfl, o8.sqT hbb, rfl, _, _, rfl, _, _, rfl, rfl, _, _, rfl, rfl, ?_⟩
      have hlenc := m7.length
      have qi : (q3 n r st).length = 3 := rfl
      rw [List.length_take, qi] at hlenc
      have bt0 : 0 ≤ qby * t := Int.mul_nonneg qok.2.2.1 (by omega)
      have bt1 : qby * t ≤ 3 * 4 := Int.mul_le_mul qok.2.2.2 t1 (by omega) (by decide)
      have eb : 2 * qby * t = 2 * (qby * t) := Int.mul_assoc 2 qby t
      refine ⟨_, rfl, .inl ⟨rfl, _, SqL.of l8⟩, _, rfl, _, rfl, _, rfl, _, rfl, _, rfl, _, _, rfl, rfl, .inl ⟨by decide, by decide⟩, _, rfl, _, _, rfl, rfl, .inr ⟨by omega, by omega⟩, _, _, rfl, rfl, p, _, rfl, p7.keep o8, (by show (1 : Int) ≤ 2 * qby * t + 1; omega), (by show 2 * qby * t + 1 ≤ (1000000 : Int); omega), fun H9 d e9 p9 d0 d1 => ?_⟩
      have l9 := e9.lst l8 (by simpa using nFp)
      refine ⟨_, _, rfl, rfl, _, rfl, _, rfl, _, _, rfl, rfl, .inr ⟨by omega, by omega⟩, _, _, rfl, rfl, _, _, rfl, _, _, rfl, F, _, _, rfl, rfl, l9, ?_, ?_⟩
      · rw [List.length_map, sizeLine_eq]
        omega
      · have mv := clamp_ok (t := t) (d := d) (a := qa) (lo := qlo) (hi := qhi) (b := qby) qok.1 qok.2.1 d0 d1 bt0
        have ea : Ex true [F] H9 (upd H9 F (.lst (cs.map V.int ++ [.int (if (if qa + d - qby * t < qhi then qa + d - qby * t else qhi) > qlo then (if qa + d - qby * t < qhi then qa + d - qby * t else qhi) else qlo)]))) := Ex.app .refl (.inl (by simp)) l9
        refine ⟨_, _, _, _, cs ++ [if (if qa + d - qby * t < qhi then qa + d - qby * t else qhi) > qlo then (if qa + d - qby * t < qhi then qa + d - qby * t else qhi) else qlo], rfl, ((e7.trans (Ex.nil o8)).trans e9).app (.inr nwF) l9, ((o7.trans (Ex.nil o8)).trans (e9.mono (by simp))).app (.inl (by simp)) l9, p9.keep ea (by simpa using Ne.symm nFp), ?_, ?_⟩
        · rw [List.map_append]
          exact upd_same
        · rw [List.take_add_one, hq]
          exact m7.app (.cons mv .nil)
    · rintro σ H7 ⟨z7, z8, z9, z10, cs, rfl, e7, o7, p7, l7, m7⟩
      refine ⟨_, rfl, F, _, rfl, .inl ⟨.of l7, fun v nv => ?_⟩⟩
      have m8 : Paired (fun q c => Mv t q c) (q3 n r st) cs := m7
      obtain ⟨c0, c1, c2, rfl, k0, k1, k2⟩ : ∃ c0 c1 c2, cs = [c0, c1, c2] ∧ Mv t (st.1, 0, n.wide - 1, r.1) c0 ∧ Mv t (st.2.1, 0, n.high - 1, r.1) c1 ∧ Mv t (st.2.2, 0 - n.clocks, n.clocks, r.2) c2 := by
        have m9 : Paired (fun q c => Mv t q c) [(st.1, 0, n.wide - 1, r.1), (st.2.1, 0, n.high - 1, r.1), (st.2.2, 0 - n.clocks, n.clocks, r.2)] cs := m8
        cases m9 with
        | cons a1 m9 =>
          cases m9 with
          | cons a2 m9 =>
            cases m9 with
            | cons a3 m9 =>
              cases m9
              exact ⟨_, _, _, rfl, a1, a2, a3⟩
      unfold Mv at k0 k1 k2
      simp only at k0 k1 k2
      refine k _ _ (c0, c1, c2) (e7.new nv) (p7.keep (Ex.one nv)) (Dp.ofS (.of upd_same)) ?_ ?_
      · unfold inNet
        simp only
        omega
      · unfold reach
        simp only
        omega
end Fb
namespace Fb
open PySem PySem.Spec PyProof.Rows L2
variable {P : Program} {w : World} {K : PySem.W.Frag} {mg : Str → Option Value} {base : Heap} {C : Addr}
/-! ### the same net otherwise told -/
theorem take_map {α β : Type} {l : List α} {i : Nat} {x : α} (φ : α → β) (h : l[i]? = some x) : (l.take (i + 1)).map φ = (l.take i).map φ ++ [φ x] := by
  rw [List.take_add_one, h, List.map_append]
  rfl
def spMir (K : PySem.W.Frag) : Sp := fun vs H Q _ => ∃ (nv hv : V) (n : Net), vs = [nv, hv] ∧ Dp K H nv (encN n) ∧ Dp K H hv (.tuple (n.houses.map encH)) ∧ NetOk n ∧ ∀ H' r, Ex true [] H H' → Dp K H' r (encN (mirN n)) → Q r H'
theorem sc_mirrored : FnScope ["_law_net_here", "_law_houses", "_law_found", "_law_one", "_law_b", "_law_x", "_law_y", "_law_right", "_law_up"] ["_law_net_here", "_law_houses"] (defScope s__law_mirrored) := ⟨rfl, rfl, rfl, by decide +kernel, rfl, by decide +kernel, by decide +kernel⟩
theorem c_mirrored (T : Txt K mg C) : Cl P w K mg base 1 "_law_mirrored" (spMir K) := by
  refine T.d__law_mirrored.mk (ps := ["_law_net_here", "_law_houses"]) (fun _ _ _ _ _ _ us hl => match us, hl with | [_, _], _ => rfl) sc_mirrored (fun vs H Q E h => ?_) fun f cdv A outer s H vs Q E hr h => ?_
  · obtain ⟨nv, hv, n, rfl, _⟩ := h
    rfl
  · obtain ⟨nv, hv, n, rfl, hn, hhv, ok, k⟩ := h
    obtain ⟨a, b, hs, rfl, ha, hb, hp⟩ := hn.n
    obtain ⟨c, xs, rfl, hc, pc⟩ := hhv.seq
    have hlen := pc.length
    have l1 := ok.l1
    have nd := sc_mirrored.nd
    refine ⟨_, pss_cons (ps_set (i := 2) nd rfl (Or.inl rfl) (pe_lst pa_nil)) (pss_cons (ps_for PassesOwn.never rfl (pi_tup (pv 1)) (pg_name (i := 3) nd rfl (Or.inl rfl))
        (pss_one (ps_expr (pe_bm PySem.F.plainAttrs_list PySem.F.slot_list_append PySem.F.type_list_append mt_append (pv 2) (pa_cons (pe_callTy call_tuple_of (by rfl) T.b_tuple (by decide +kernel) (pa_cons
          (pe_lc (own := [("_law_b", 4), ("_law_x", 5), ("_law_y", 6), ("_law_right", 7), ("_law_up", 8)]) (g := gTup K 5 (gCons (gName 4) (gCons (gName 5) (gCons (gName 6) (gCons (gName 7) (gCons (gName 8) (gNil))))))) (tt := tYes) (te := tTup (tCons (tVar 4) (tCons (tOp rMi (tOp rMi (tOp (rIxT K) (tVar 0) (tC (.int 0))) (tC (.int 1))) (tVar 5)) (tCons (tVar 6) (tCons (tOp rMi (tC (.int 0)) (tVar 7)) (tCons (tVar 8) tNil)))))) rfl nd (pi_tup (pv 3))
            (blkOk_by (N := ["_law_net_here", "_law_houses", "_law_found", "_law_one", "_law_b", "_law_x", "_law_y", "_law_right", "_law_up"]) (sc := defScope s__law_mirrored) (by decide +kernel)) (fun _ _ _ _ _ => pg_tup rfl (pgs_cons (pg_name (i := 4) nd rfl (Or.inl rfl)) (pgs_cons (pg_name (i := 5) nd rfl (Or.inl rfl)) (pgs_cons (pg_name (i := 6) nd rfl (Or.inl rfl)) (pgs_cons (pg_name (i := 7) nd rfl (Or.inl rfl)) (pgs_cons (pg_name (i := 8) nd rfl (Or.inl rfl)) (pgs_nil))))))) (fun _ _ _ _ _ => pts_nil)
            (fun _ _ _ _ _ => pe_tup (pa_cons (pv 4) (pa_cons (pe_op op_sub (pe_op op_sub (pe_ix ix_tup (pv 0) pe_int (fun _ _ => rfl)) pe_int) (pv 5)) (pa_cons (pv 6) (pa_cons (pe_op op_sub pe_int (pv 7)) (pa_cons (pv 8) pa_nil))))))) pa_nil)) pa_nil)))))
      (pss_one (ps_ret (pe_op op_catA (pe_slice sl_tup (pv 0) po_none (po_some pe_int)) (pe_tup (pa_cons (pe_callTy call_tuple_of (by rfl) T.b_tuple (by decide +kernel) (pa_cons (pv 2) pa_nil)) pa_nil)))))), ?_⟩
    refine ⟨Nat.zero_le _, fun F hF => ?_⟩
    have x0 : Ex true [] H (upd H F (.lst [])) := .one hF
    refine ⟨_, rfl, c, rfl, ⟨_, x0.sqT hc⟩, for_it (walk_tup (K := K) (a := c) (xs := xs)) (fun i σ H' => ∃ (z3 z4 z5 z6 z7 z8 : Option V), σ = [some (.ref a), some (.ref c), some (.ref F), z3, z4, z5, z6, z7, z8] ∧ Ex true [] H H' ∧ HsOf K H' F ((n.houses.take i).map fun h => h.map (mirW n.wide)))
      ⟨none, none, none, none, none, none, rfl, x0, [], upd_same, .nil⟩ (fun i σ H' _ ⟨_, _, _, _, _, _, _, e, _⟩ => e.sqT hc) ?_ ?_⟩
    · rintro i x σ H1 H2 hi ⟨z3, z4, z5, z6, z7, z8, rfl, e1, vs, l1', p1⟩ ⟨rfl, hx⟩
      obtain ⟨h, hh, dh⟩ := pc.at_ hx
      obtain ⟨ta, txs, rfl, hta, pt⟩ := dh.seq
      have hok := ok.houses h (List.mem_of_getElem? hh)
      have hl3 := hok.l1
      have tlen := pt.length
      refine ⟨_, rfl, .inl ⟨rfl, _, SqL.of l1'⟩, _, rfl, ta, rfl, ⟨_, e1.sqT hta⟩, fun D hD => ?_⟩
      have nFD : F ≠ D := ne_of_none l1' hD
      refine lc_it (walk_tup (K := K) (a := ta) (xs := txs)) (fun j H' => Ex true [] H2 H' ∧ WOf K H' D ((h.take j).map (mirW n.wide))) ⟨.one hD, [], upd_same, .nil⟩ (fun j H' _ ⟨e, _⟩ => e.sqT (e1.sqT hta)) ?_ ?_
      · rintro j y H4 H3 hj ⟨e3, vs3, l3, p3⟩ ⟨rfl, hy⟩
        obtain ⟨u, hu, du⟩ := pt.at_ hy
        obtain ⟨ua, rfl, hua⟩ := Dp.w du
        have hua3 := e3.sqT (e1.sqT hua)
        refine ⟨ua, _, rfl, hua3, rfl, _, _, rfl, _, _, rfl, _, _, rfl, _, _, rfl, _, _, rfl, rfl, rfl, ?_⟩
        refine ⟨_, rfl, _, rfl, a, _, _, _, rfl, rfl, e3.sqT (e1.sqT ha), at0, _, _, rfl, rfl, _, rfl, _, _, rfl, rfl, _, rfl, _, rfl, _, _, rfl, rfl, _, rfl, (by show 5 ≤ sizeLine; decide), fun q nq => ?_⟩
        have nDq : D ≠ q := ne_of_none l3 nq
        have o1 : Ex true [] H3 (upd H3 q (.tup [.int (mirW n.wide u).1, .int (mirW n.wide u).2.1, .int (mirW n.wide u).2.2.1, .int (mirW n.wide u).2.2.2.1, .int (mirW n.wide u).2.2.2.2])) := .one nq
        have lD := o1.lst l3 (by simp)
        have o2 : Ex true [D] (upd H3 q (.tup [.int (mirW n.wide u).1, .int (mirW n.wide u).2.1, .int (mirW n.wide u).2.2.1, .int (mirW n.wide u).2.2.2.1, .int (mirW n.wide u).2.2.2.2])) (upd (upd H3 q (.tup [.int (mirW n.wide u).1, .int (mirW n.wide u).2.1, .int (mirW n.wide u).2.2.1, .int (mirW n.wide u).2.2.2.1, .int (mirW n.wide u).2.2.2.2])) D (.lst (vs3 ++ [.ref q]))) := Ex.app .refl (.inl (by simp)) lD
        refine ⟨vs3, lD, ?_, (e3.trans o1).app (.inr (.of hD)) lD, vs3 ++ [.ref q], upd_same, ?_⟩
        · rw [p3.length, List.length_map, List.length_take, sizeLine_eq]
          omega
        · rw [take_map (mirW n.wide) hu]
          exact (o2.pr tt_W (o1.pr tt_W p3)).app (.cons (o2.dp (tt_W (mirW n.wide u)) (Dp.ofW (s := mirW n.wide u) (.of upd_same))) .nil)
      · rintro H3 ⟨e3, vs3, l3, p3⟩
        rw [tlen, List.take_length] at p3
        refine ⟨D, vs3, rfl, .inl ⟨.of l3, fun q nq => ?_⟩⟩
        have e4 : Ex true [] H2 (upd H3 q (.tup vs3)) := e3.new nq
        have o4 : Ex true [] H3 (upd H3 q (.tup vs3)) := .one nq
        have l5 := e4.lst l1' (by simp)
        have o5 : Ex true [F] (upd H3 q (.tup vs3)) (upd (upd H3 q (.tup vs3)) F (.lst (vs ++ [.ref q]))) := Ex.app .refl (.inl (by simp)) l5
        refine ⟨F, vs, _, rfl, rfl, l5, ?_, _, _, _, _, _, _, rfl, (e1.trans e4).app (.inr (.of hF)) l5, vs ++ [.ref q], upd_same, ?_⟩
        · rw [p1.length, List.length_map, List.length_take, sizeLine_eq]
          omega
        · rw [take_map (fun h => h.map (mirW n.wide)) hh]
          exact (o5.pr tt_H (e4.pr tt_H p1)).app (.cons (o5.house (s := h.map (mirW n.wide)) (.ofSeq (.of upd_same) (o4.pr tt_W p3))) .nil)
    · rintro σ H1 ⟨z3, z4, z5, z6, z7, z8, rfl, e1, vs, l1', p1⟩
      rw [hlen, List.take_length] at p1
      refine ⟨_, rfl, 4, rfl, a, _, rfl, e1.sqT ha, (fun z => absurd (show (4 : Nat) = 5 from z.2) (by decide)), fun q nq => ?_⟩
      have o2 : Ex true [] H1 (upd H1 q (.tup [.int n.wide, .int n.high, .int n.clocks, .int n.slip])) := .one nq
      have l2 := o2.lst l1' (by simp)
      refine ⟨_, rfl, F, vs, rfl, .inl ⟨.of l2, fun t nt => ⟨(by show 1 ≤ sizeLine; decide), fun u nu => ?_⟩⟩⟩
      have o3 := o2.new (o := .tup vs) nt
      have o4 := o3.new (o := .tup [.ref t]) nu
      have s3 : SqT K (upd (upd H1 q (.tup [.int n.wide, .int n.high, .int n.clocks, .int n.slip])) t (.tup vs)) t vs := .of upd_same
      have o34 : Ex true [] (upd (upd H1 q (.tup [.int n.wide, .int n.high, .int n.clocks, .int n.slip])) t (.tup vs)) (upd (upd (upd H1 q (.tup [.int n.wide, .int n.high, .int n.clocks, .int n.slip])) t (.tup vs)) u (.tup [.ref t])) := .one nu
      have o23 : Ex true [] (upd H1 q (.tup [.int n.wide, .int n.high, .int n.clocks, .int n.slip])) (upd (upd (upd H1 q (.tup [.int n.wide, .int n.high, .int n.clocks, .int n.slip])) t (.tup vs)) u (.tup [.ref t])) := (Ex.one nt).new nu
      refine ⟨q, u, [.int n.wide, .int n.high, .int n.clocks, .int n.slip], [.ref t], rfl, rfl, o23.sqT (.of upd_same), .of upd_same, (by show (5 : Nat) ≤ sizeLine; decide), fun z => (by cases z), fun _ z => (by cases z), fun _ _ r nr => ?_⟩
      have o5 := o4.new (o := .tup [.int n.wide, .int n.high, .int n.clocks, .int n.slip, .ref t]) nr
      have o35 : Ex true [] (upd (upd H1 q (.tup [.int n.wide, .int n.high, .int n.clocks, .int n.slip])) t (.tup vs)) (upd (upd (upd (upd H1 q (.tup [.int n.wide, .int n.high, .int n.clocks, .int n.slip])) t (.tup vs)) u (.tup [.ref t])) r (.tup [.int n.wide, .int n.high, .int n.clocks, .int n.slip, .ref t])) := o34.new nr
      exact k _ _ (e1.trans o5) (Dp.ofN (n := mirN n) (.of upd_same) (o35.sqT s3) (o5.pr tt_H p1))
def spExc (K : PySem.W.Frag) : Sp := fun vs H Q _ => ∃ (nv hv : V) (n : Net), vs = [nv, hv] ∧ Dp K H nv (encN n) ∧ Dp K H hv (.tuple (n.houses.map encH)) ∧ NetOk n ∧ ∀ H' r, Ex true [] H H' → Dp K H' r (encN (excN n)) → Q r H'
theorem sc_exchanged : FnScope ["_law_net_here", "_law_houses", "_law_found", "_law_one", "_law_b", "_law_x", "_law_y", "_law_right", "_law_up"] ["_law_net_here", "_law_houses"] (defScope s__law_exchanged) := ⟨rfl, rfl, rfl, by decide +kernel, rfl, by decide +kernel, by decide +kernel⟩
theorem c_exchanged (T : Txt K mg C) : Cl P w K mg base 1 "_law_exchanged" (spExc K) := by
  refine T.d__law_exchanged.mk (ps := ["_law_net_here", "_law_houses"]) (fun _ _ _ _ _ _ us hl => match us, hl with | [_, _], _ => rfl) sc_exchanged (fun vs H Q E h => ?_) fun f cdv A outer s H vs Q E hr h => ?_
  · obtain ⟨nv, hv, n, rfl, _⟩ := h
    rfl
  · obtain ⟨nv, hv, n, rfl, hn, hhv, ok, k⟩ := h
    obtain ⟨a, b, hs, rfl, ha, hb, hp⟩ := hn.n
    obtain ⟨c, xs, rfl, hc, pc⟩ := hhv.seq
    have hlen := pc.length
    have l1 := ok.l1
    have nd := sc_exchanged.nd
    refine ⟨_, pss_cons (ps_set (i := 2) nd rfl (Or.inl rfl) (pe_lst pa_nil)) (pss_cons (ps_for PassesOwn.never rfl (pi_tup (pv 1)) (pg_name (i := 3) nd rfl (Or.inl rfl))
        (pss_one (ps_expr (pe_bm PySem.F.plainAttrs_list PySem.F.slot_list_append PySem.F.type_list_append mt_append (pv 2) (pa_cons (pe_callTy call_tuple_of (by rfl) T.b_tuple (by decide +kernel) (pa_cons
          (pe_lc (own := [("_law_b", 4), ("_law_x", 5), ("_law_y", 6), ("_law_right", 7), ("_law_up", 8)]) (g := gTup K 5 (gCons (gName 4) (gCons (gName 5) (gCons (gName 6) (gCons (gName 7) (gCons (gName 8) (gNil))))))) (tt := tYes) (te := tTup (tCons (tVar 4) (tCons (tVar 6) (tCons (tVar 5) (tCons (tVar 8) (tCons (tVar 7) tNil)))))) rfl nd (pi_tup (pv 3))
            (blkOk_by (N := ["_law_net_here", "_law_houses", "_law_found", "_law_one", "_law_b", "_law_x", "_law_y", "_law_right", "_law_up"]) (sc := defScope s__law_exchanged) (by decide +kernel)) (fun _ _ _ _ _ => pg_tup rfl (pgs_cons (pg_name (i := 4) nd rfl (Or.inl rfl)) (pgs_cons (pg_name (i := 5) nd rfl (Or.inl rfl)) (pgs_cons (pg_name (i := 6) nd rfl (Or.inl rfl)) (pgs_cons (pg_name (i := 7) nd rfl (Or.inl rfl)) (pgs_cons (pg_name (i := 8) nd rfl (Or.inl rfl)) (pgs_nil))))))) (fun _ _ _ _ _ => pts_nil)
            (fun _ _ _ _ _ => pe_tup (pa_cons (pv 4) (pa_cons (pv 6) (pa_cons (pv 5) (pa_cons (pv 8) (pa_cons (pv 7) pa_nil))))))) pa_nil)) pa_nil)))))
      (pss_one (ps_ret (pe_tup (pa_cons (pe_ix ix_tup (pv 0) pe_int (fun _ _ => rfl)) (pa_cons (pe_ix ix_tup (pv 0) pe_int (fun _ _ => rfl)) (pa_cons (pe_ix ix_tup (pv 0) pe_int (fun _ _ => rfl)) (pa_cons (pe_ix ix_tup (pv 0) pe_int (fun _ _ => rfl)) (pa_cons (pe_callTy call_tuple_of (by rfl) T.b_tuple (by decide +kernel) (pa_cons (pv 2) pa_nil)) pa_nil))))))))), ?_⟩
    refine ⟨Nat.zero_le _, fun F hF => ?_⟩
    have x0 : Ex true [] H (upd H F (.lst [])) := .one hF
    refine ⟨_, rfl, c, rfl, ⟨_, x0.sqT hc⟩, for_it (walk_tup (K := K) (a := c) (xs := xs)) (fun i σ H' => ∃ (z3 z4 z5 z6 z7 z8 : Option V), σ = [some (.ref a), some (.ref c), some (.ref F), z3, z4, z5, z6, z7, z8] ∧ Ex true [] H H' ∧ HsOf K H' F ((n.houses.take i).map fun h => h.map (excW)))
      ⟨none, none, none, none, none, none, rfl, x0, [], upd_same, .nil⟩ (fun i σ H' _ ⟨_, _, _, _, _, _, _, e, _⟩ => e.sqT hc) ?_ ?_⟩
    · rintro i x σ H1 H2 hi ⟨z3, z4, z5, z6, z7, z8, rfl, e1, vs, l1', p1⟩ ⟨rfl, hx⟩
      obtain ⟨h, hh, dh⟩ := pc.at_ hx
      obtain ⟨ta, txs, rfl, hta, pt⟩ := dh.seq
      have hok := ok.houses h (List.mem_of_getElem? hh)
      have hl3 := hok.l1
      have tlen := pt.length
      refine ⟨_, rfl, .inl ⟨rfl, _, SqL.of l1'⟩, _, rfl, ta, rfl, ⟨_, e1.sqT hta⟩, fun D hD => ?_⟩
      have nFD : F ≠ D := ne_of_none l1' hD
      refine lc_it (walk_tup (K := K) (a := ta) (xs := txs)) (fun j H' => Ex true [] H2 H' ∧ WOf K H' D ((h.take j).map (excW))) ⟨.one hD, [], upd_same, .nil⟩ (fun j H' _ ⟨e, _⟩ => e.sqT (e1.sqT hta)) ?_ ?_
      · rintro j y H4 H3 hj ⟨e3, vs3, l3, p3⟩ ⟨rfl, hy⟩
        obtain ⟨u, hu, du⟩ := pt.at_ hy
        obtain ⟨ua, rfl, hua⟩ := Dp.w du
        have hua3 := e3.sqT (e1.sqT hua)
        refine ⟨ua, _, rfl, hua3, rfl, _, _, rfl, _, _, rfl, _, _, rfl, _, _, rfl, _, _, rfl, rfl, rfl, ?_⟩
        refine ⟨_, rfl, _, rfl, _, rfl, _, rfl, _, rfl, (by show 5 ≤ sizeLine; decide), fun q nq => ?_⟩
        have nDq : D ≠ q := ne_of_none l3 nq
        have o1 : Ex true [] H3 (upd H3 q (.tup [.int (excW u).1, .int (excW u).2.1, .int (excW u).2.2.1, .int (excW u).2.2.2.1, .int (excW u).2.2.2.2])) := .one nq
        have lD := o1.lst l3 (by simp)
        have o2 : Ex true [D] (upd H3 q (.tup [.int (excW u).1, .int (excW u).2.1, .int (excW u).2.2.1, .int (excW u).2.2.2.1, .int (excW u).2.2.2.2])) (upd (upd H3 q (.tup [.int (excW u).1, .int (excW u).2.1, .int (excW u).2.2.1, .int (excW u).2.2.2.1, .int (excW u).2.2.2.2])) D (.lst (vs3 ++ [.ref q]))) := Ex.app .refl (.inl (by simp)) lD
        refine ⟨vs3, lD, ?_, (e3.trans o1).app (.inr (.of hD)) lD, vs3 ++ [.ref q], upd_same, ?_⟩
        · rw [p3.length, List.length_map, List.length_take, sizeLine_eq]
          omega
        · rw [take_map (excW) hu]
          exact (o2.pr tt_W (o1.pr tt_W p3)).app (.cons (o2.dp (tt_W (excW u)) (Dp.ofW (s := excW u) (.of upd_same))) .nil)
      · rintro H3 ⟨e3, vs3, l3, p3⟩
        rw [tlen, List.take_length] at p3
        refine ⟨D, vs3, rfl, .inl ⟨.of l3, fun q nq => ?_⟩⟩
        have e4 : Ex true [] H2 (upd H3 q (.tup vs3)) := e3.new nq
        have o4 : Ex true [] H3 (upd H3 q (.tup vs3)) := .one nq
        have l5 := e4.lst l1' (by simp)
        have o5 : Ex true [F] (upd H3 q (.tup vs3)) (upd (upd H3 q (.tup vs3)) F (.lst (vs ++ [.ref q]))) := Ex.app .refl (.inl (by simp)) l5
        refine ⟨F, vs, _, rfl, rfl, l5, ?_, _, _, _, _, _, _, rfl, (e1.trans e4).app (.inr (.of hF)) l5, vs ++ [.ref q], upd_same, ?_⟩
        · rw [p1.length, List.length_map, List.length_take, sizeLine_eq]
          omega
        · rw [take_map (fun h => h.map (excW)) hh]
          exact (o5.pr tt_H (e4.pr tt_H p1)).app (.cons (o5.house (s := h.map (excW)) (.ofSeq (.of upd_same) (o4.pr tt_W p3))) .nil)
    · rintro σ H1 ⟨z3, z4, z5, z6, z7, z8, rfl, e1, vs, l1', p1⟩
      rw [hlen, List.take_length] at p1
      refine ⟨_, rfl, a, _, _, _, rfl, rfl, e1.sqT ha, at1, _, rfl, a, _, _, _, rfl, rfl, e1.sqT ha, at0, _, rfl, a, _, _, _, rfl, rfl, e1.sqT ha, at2, _, rfl, a, _, _, _, rfl, rfl, e1.sqT ha, at3, _, rfl, F, vs, rfl, .inl ⟨.of l1', fun t nt => ⟨(by show 5 ≤ sizeLine; decide), fun r nr => ?_⟩⟩⟩
      have o1 : Ex true [] H1 (upd H1 t (.tup vs)) := .one nt
      have o2 := o1.new (o := .tup [.int n.high, .int n.wide, .int n.clocks, .int n.slip, .ref t]) nr
      have o12 : Ex true [] (upd H1 t (.tup vs)) (upd (upd H1 t (.tup vs)) r (.tup [.int n.high, .int n.wide, .int n.clocks, .int n.slip, .ref t])) := .one nr
      exact k _ _ (e1.trans o2) (Dp.ofN (n := excN n) (.of upd_same) (o12.sqT (.of upd_same)) (o2.pr tt_H p1))
end Fb
namespace Fb
open PySem PySem.Spec PyProof.Rows L2
variable {P : Program} {w : World} {K : PySem.W.Frag} {mg : Str → Option Value} {base : Heap} {C : Addr}
/-! ### deeds -/
/-- a deed: ticks, signs in a list that is none of av -/
def DeedV (K : PySem.W.Frag) (av : List Addr) (H : Hp) (v : V) (d : Deed) : Prop := ∃ (b l : Addr) (gs : List V), v = .ref b ∧ SqT K H b [.int d.1, .ref l] ∧ H l = some (.lst gs) ∧ l ∉ av ∧ Paired (fun v g => Dp K H v (encS g)) gs d.2
theorem DeedV.keep {tb : Bool} {av qs : List Addr} {H H' : Hp} {v : V} {d : Deed} (h : DeedV K av H v d) (x : Ex tb qs H H') (hq : ∀ b ∈ qs, b ∈ av) : DeedV K av H' v d := by
  obtain ⟨b, l, gs, e, h1, h2, h3, h4⟩ := h
  exact ⟨b, l, gs, e, x.sqT h1, x.lst h2 (fun z => h3 (hq l z)), h3, x.pr tt_S h4⟩
def DeedsAt (K : PySem.W.Frag) (H : Hp) (D : Addr) (ds : List Deed) : Prop := ∃ vs, H D = some (.lst vs) ∧ Paired (DeedV K [] H) vs ds
theorem DeedsAt.keep {tb : Bool} {H H' : Hp} {D : Addr} {ds : List Deed} (h : DeedsAt K H D ds) (x : Ex tb [] H H') : DeedsAt K H' D ds := by
  obtain ⟨vs, h1, h2⟩ := h
  exact ⟨vs, x.lst h1 (by simp), L2.Paired.mapP h2 fun v d q => q.keep x (fun b hb => by cases hb)⟩
theorem DeedV.any {av : List Addr} {H : Hp} {v : V} {d : Deed} (h : DeedV K av H v d) : DeedV K [] H v d := by
  obtain ⟨b, l, gs, e, h1, h2, h3, h4⟩ := h
  exact ⟨b, l, gs, e, h1, h2, by simp, h4⟩
def spDeeds (K : PySem.W.Frag) : Sp := fun vs H Q _ => ∃ (p : Addr) (nv rv : V) (n : Net) (r : Rule), vs = [.ref p, nv, rv] ∧ PenAt H p ∧ Dp K H nv (encN n) ∧ Dp K H rv (encR r) ∧ NetS n ∧ RuleOk r ∧
  ∀ H' D pth ds, Ex true [p] H H' → PenAt H' p → Nw true H D → DeedsAt K H' D ds → DeedsOk n r pth ds → ds.length ≤ 5 → Q (.ref D) H'
theorem sc_deeds : FnScope ["_law_pen_here", "_law_net_here", "_law_rule_here", "_law_stand", "_law_found", "_law_lap", "_law_ticks", "_law_signs", "_law_turn"] ["_law_pen_here", "_law_net_here", "_law_rule_here"] (defScope s__law_deeds) := ⟨rfl, rfl, rfl, by decide +kernel, rfl, by decide +kernel, by decide +kernel⟩
theorem c_deeds (T : Txt K mg C) : Cl P w K mg base 3 "_law_deeds" (spDeeds K) := by
  refine T.d__law_deeds.mk (ps := ["_law_pen_here", "_law_net_here", "_law_rule_here"]) (fun _ _ _ _ _ _ us hl => match us, hl with | [_, _, _], _ => rfl) sc_deeds (fun vs H Q E h => ?_) fun f cdv A outer s H vs Q E hr h => ?_
  · obtain ⟨p, nv, rv, n, r, rfl, _⟩ := h
    rfl
  · obtain ⟨p, nv, rv, n, r, rfl, hp, hn, hrv, nok, rok, k⟩ := h
    have nd := sc_deeds.nd
    refine ⟨_, pss_cons (ps_asg (pe_tup (pa_cons (pe_f (c_pick T) hr (pa_cons (pv 0) (pa_cons (pe_f (c_lstands T) hr (pa_cons (pv 1) pa_nil)) pa_nil))) (pa_cons (pe_lst pa_nil) pa_nil))) (pg_tup rfl (pgs_cons (pg_name (i := 3) nd rfl (Or.inr rfl)) (pgs_cons (pg_name (i := 4) nd rfl (Or.inl rfl)) pgs_nil))))
      (pss_cons (ps_for PassesOwn.never rfl (pi_range1 (by rfl) T.b_range (pa_cons (pe_op op_add pe_int (pe_f (c_draw T) hr (pa_cons (pv 0) (pa_cons pe_int pa_nil)))) pa_nil)) (pg_name (i := 5) nd rfl (Or.inl rfl))
        (pss_cons (ps_set (i := 6) nd rfl (Or.inl rfl) (pe_op op_add pe_int (pe_f (c_draw T) hr (pa_cons (pv 0) (pa_cons pe_int pa_nil)))))
        (pss_cons (ps_set (i := 3) nd rfl (Or.inr rfl) (pe_f (c_step T) hr (pa_cons (pv 0) (pa_cons (pv 1) (pa_cons (pv 2) (pa_cons (pv 3) (pa_cons (pv 6) pa_nil)))))))
        (pss_cons (ps_setLc (i := 7) (own := [("_law_turn", 8)]) (g := gName 8) (tt := tYes) rfl nd rfl rfl (sw_true rfl rfl rfl (by decide +kernel)) (pi_range1 (by rfl) T.b_range (pa_cons (pe_f (c_draw T) hr (pa_cons (pv 0) (pa_cons pe_int pa_nil))) pa_nil))
          (blkOk_by (N := ["_law_pen_here", "_law_net_here", "_law_rule_here", "_law_stand", "_law_found", "_law_lap", "_law_ticks", "_law_signs", "_law_turn"]) (sc := defScope s__law_deeds) (by decide +kernel)) (fun _ _ _ _ _ => pg_name (i := 8) nd rfl (Or.inl rfl)) (fun _ _ _ _ _ => pts_nil)
          (fun _ _ _ _ _ => pe_f (c_heard T) hr (pa_cons (pv 0) (pa_cons (pv 1) (pa_cons (pv 3) (pa_cons pe_int pa_nil))))))
        (pss_one (ps_expr (pe_bm PySem.F.plainAttrs_list PySem.F.slot_list_append PySem.F.type_list_append mt_append (pv 4) (pa_cons (pe_tup (pa_cons (pv 6) (pa_cons (pv 7) pa_nil))) pa_nil))))))))
      (pss_one (ps_ret (pv 4)))), ?_⟩
    refine ⟨_, rfl, _, rfl, nv, n, rfl, hn, nok.ok, fun H1 l xs S x1 nl l1 p1 m1 lo hi => ?_⟩
    have nlp : l ≠ p := by
      obtain ⟨a, b, c, e, _⟩ := hp
      intro q
      subst q
      exact nl _ (.inl rfl) e
    have hp1 := hp.keep x1
    refine ⟨p, l, xs, rfl, hp1, l1, nlp, by rw [p1.length]; exact lo, by rw [p1.length]; omega, fun H2 i v x2 p2 hv => ?_⟩
    obtain ⟨s0, hs0, ds0⟩ := p1.at_ hv
    have sin0 := m1 s0 (List.mem_of_getElem? hs0)
    refine ⟨Nat.zero_le _, fun F hF => ⟨(by show 2 ≤ sizeLine; decide), fun u nu => ?_⟩⟩
    have e2 : Ex true [p] H H2 := (Ex.nil x1).trans x2
    have nFp : F ≠ p := p2.ne hF
    have nwF : Nw true H F := e2.nw hF (by simpa using nFp)
    have o2 : Ex true [] H2 (upd (upd H2 F (.lst [])) u (.tup [v, .ref F])) := (Ex.one hF).new nu
    have nFu : F ≠ u := ne_of_none upd_same nu
    have lF : (upd (upd H2 F (.lst [])) u (.tup [v, .ref F])) F = some (.lst []) := by rw [upd_ne nFu]; exact upd_same
    refine ⟨u, _, rfl, .of upd_same, rfl, _, _, rfl, _, _, rfl, rfl, ?_⟩
    have e3 := e2.trans (Ex.nil o2)
    refine ⟨_, rfl, p, 5, rfl, p2.keep o2, by decide, by decide, fun H4 N e4 p4 N0 N1 => ⟨_, _, rfl, rfl, _, rfl, by omega, by omega, ?_⟩⟩
    have e34 := e3.trans e4
    refine for_it (walk_range (n := (1 + N).toNat)) (fun i σ H' => ∃ (z5 z6 z7 z8 : Option V) (sv : V) (st : Stand) (pth : Nat → Stand) (ds : List Deed) (vs : List V), σ = [some (.ref p), some nv, some rv, some sv, some (.ref F), z5, z6, z7, z8] ∧ Ex true [p] H H' ∧ PenAt H' p ∧ Dp K H' sv (encS st) ∧ inNet n st ∧ pth ds.length = st ∧ DeedsOk n r pth ds ∧ ds.length = i ∧ H' F = some (.lst vs) ∧ Paired (DeedV K [p, F] H') vs ds)
      ⟨none, none, none, none, v, s0, (fun _ => s0), [], [], rfl, e34, p4, e4.stand (o2.stand (x2.stand ds0)), sin0, rfl, .nil sin0, rfl, e4.lst lF (by simpa using nFp), .nil⟩ (fun _ _ _ _ _ => True.intro) ?_ ?_
    · rintro i x σ H6 H5 hi' ⟨z5, z6, z7, z8, sv, st, pth, ds, vs, rfl, e5, p5, d5, sin5, epth, dok, dl, l5, q5⟩ ⟨rfl, rfl⟩
      refine ⟨_, rfl, p, 4, rfl, p5, by decide, by decide, fun H7 t e7 p7 t0 t1 => ⟨_, _, rfl, rfl, ?_⟩⟩
      have e57 := e5.trans e7
      refine ⟨_, rfl, _, rfl, _, rfl, _, rfl, _, rfl, p, nv, rv, sv, n, r, st, 1 + t, rfl, p7, e57.net hn, e57.rule hrv, e7.stand d5, nok.ok, rok, sin5, by omega, by omega, fun H8 sv' st' e8 p8 d8 sin8 lead8 => ?_⟩
      have e58 := e57.trans e8
      refine ⟨_, rfl, p, 3, rfl, p8, by decide, by decide, fun H9 M e9 p9 M0 M1 => ⟨_, rfl, by omega, by omega, fun L hL => ?_⟩⟩
      have e59 := e58.trans e9
      have nLp : L ≠ p := p9.ne hL
      have l9 : H9 F = some (.lst vs) := ((e7.trans e8).trans e9).lst l5 (by simpa using nFp)
      have nLF : L ≠ F := Ne.symm (ne_of_none l9 hL)
      have nwL : Nw true H9 L := .of hL
      refine lc_it (walk_range (n := M.toNat)) (fun j H' => Ex true [p] H9 H' ∧ PenAt H' p ∧ ∃ (gs : List V) (signs : List Sign), H' L = some (.lst gs) ∧ Paired (fun v g => Dp K H' v (encS g)) gs signs ∧ signs.length = j ∧ ∀ g ∈ signs, SignOk n g ∧ fitsB n st' g = true)
        ⟨Ex.nil (Ex.one hL), p9.keep (Ex.one hL), [], [], upd_same, .nil, rfl, fun _ h => (by cases h)⟩ (fun _ _ _ _ => True.intro) ?_ ?_
      · rintro j y Hb Ha hj ⟨ea, pa, gs, signs, la, qa, hl, hg⟩ ⟨rfl, rfl⟩
        refine ⟨rfl, _, rfl, _, rfl, _, rfl, p, nv, sv', n, st', rfl, pa, (e59.trans ea).net hn, ea.stand (e9.stand d8), nok, sin8, fun Hc gv g ec pc dc gok fit => ?_⟩
        have lc := ec.lst la (by simpa using nLp)
        refine ⟨gs, lc, ?_, ?_⟩
        · rw [qa.length, sizeLine_eq]
          omega
        · have ed : Ex true [L] Hc (upd Hc L (.lst (gs ++ [gv]))) := Ex.app .refl (.inl (by simp)) lc
          refine ⟨(ea.trans ec).app (.inr nwL) lc, pc.keep ed (by simpa using Ne.symm nLp), gs ++ [gv], signs ++ [g], upd_same, (ed.pr tt_S (ec.pr tt_S qa)).app (.cons (ed.stand dc) .nil), by rw [List.length_append, List.length_singleton, hl], fun g' hg' => ?_⟩
          rcases List.mem_append.mp hg' with hg' | hg'
          · exact hg g' hg'
          · have : g' = g := by simpa using hg'
            rw [this]
            exact ⟨gok, fit⟩
      · rintro Ha ⟨ea, pa, gs, signs, la, qa, hl, hg⟩
        have lFa := ea.lst l9 (by simpa using nFp)
        refine ⟨_, rfl, .inl ⟨rfl, _, SqL.of lFa⟩, _, rfl, _, rfl, (by show 2 ≤ sizeLine; decide), fun q nq => ?_⟩
        have oq : Ex true [] Ha (upd Ha q (.tup [.int (1 + t), .ref L])) := .one nq
        have lFq := oq.lst lFa (by simp)
        have lLq := oq.lst la (by simp)
        have of_ : Ex true [p, F] (upd Ha q (.tup [.int (1 + t), .ref L])) (upd (upd Ha q (.tup [.int (1 + t), .ref L])) F (.lst (vs ++ [.ref q]))) := Ex.app .refl (.inl (by simp)) lFq
        refine ⟨F, vs, _, rfl, rfl, lFq, ?_, ?_⟩
        · rw [q5.length, sizeLine_eq]
          omega
        · have eall : Ex true [p] H (upd Ha q (.tup [.int (1 + t), .ref L])) := (e59.trans ea).trans (Ex.nil oq)
          have key : Ex true [p, F] H5 (upd (upd Ha q (.tup [.int (1 + t), .ref L])) F (.lst (vs ++ [.ref q]))) := ((((e7.trans e8).trans e9).trans ea).trans (Ex.nil oq)).mono (by simp) |>.trans of_
          refine ⟨_, _, _, _, sv', st', (fun i => if i = ds.length + 1 then st' else pth i), ds ++ [(1 + t, signs)], vs ++ [.ref q], rfl, eall.app (.inr nwF) lFq, (pa.keep oq).keep (Ex.app (ps := [F]) (tb := true) .refl (.inl (by simp)) lFq) (by simpa using Ne.symm nFp), of_.stand (oq.stand (ea.stand (e9.stand d8))), sin8, ?_, ?_, ?_, upd_same, ?_⟩
          · rw [List.length_append, List.length_singleton]
            simp
          · exact dok.snoc (d := (1 + t, signs)) (by show 1 ≤ 1 + t; omega) (by show 1 + t ≤ 4; omega) sin8 (by rw [epth]; exact lead8) hg (by show signs.length ≤ 2; omega)
          · rw [List.length_append, List.length_singleton, dl]
          · refine (L2.Paired.mapP q5 fun v d h => h.keep key (fun b hb => hb)).app (.cons ⟨q, L, gs, rfl, of_.sqT (.of upd_same), of_.lst lLq (by simp [nLp, nLF]), by simp [nLp, nLF], of_.pr tt_S (oq.pr tt_S qa)⟩ .nil)
    · rintro σ H5 ⟨z5, z6, z7, z8, sv, st, pth, ds, vs, rfl, e5, p5, d5, sin5, epth, dok, dl, l5, q5⟩
      exact ⟨_, rfl, k H5 F pth ds e5 p5 nwF ⟨vs, l5, L2.Paired.mapP q5 fun v d h => h.any⟩ dok (by omega)⟩
end Fb
namespace Fb
open PySem PySem.Spec PyProof.Rows L2
variable {P : Program} {w : World} {K : PySem.W.Frag} {mg : Str → Option Value} {base : Heap} {C : Addr}
/-! ### the one who moves is never lost -/
theorem runS_take {n : Net} {r : Rule} {ds : List Deed} {i : Nat} {d : Deed} (h : ds[i]? = some d) : runS n r (ds.take (i + 1)) = stepS n r (runS n r (ds.take i)) d := by
  rw [List.take_add_one, h]
  exact runS_snoc n r (ds.take i) d
theorem true_run {n : Net} (hn : NetOk n) {r : Rule} {pth : Nat → Stand} {ds : List Deed} (h : DeedsOk n r pth ds) : ∀ i, i ≤ ds.length → pth i ∈ runS n r (ds.take i)
  | 0, _ => (mem_allS hn).mpr h.beg
  | i + 1, hi => by
    have e : ds[i]? = some ds[i] := List.getElem?_eq_getElem (by omega)
    rw [runS_take e]
    exact true_step hn (h.deed i _ e) (true_run hn h i (by omega))
theorem sum_take {l : List Int} {i : Nat} {x : Int} (h : l[i]? = some x) : (l.take (i + 1)).sum = (l.take i).sum + x := by
  rw [List.take_add_one, h, List.sum_append]
  simp
theorem hearAll_take {n : Net} {S : List Stand} {gs : List Sign} {i : Nat} {g : Sign} (h : gs[i]? = some g) : hearAll n S (gs.take (i + 1)) = hearS n (hearAll n S (gs.take i)) g := by
  rw [List.take_add_one, h]
  exact hearAll_snoc n S (gs.take i) g
/-- in what parts one goes -/
def parts (whole : Bool) (t : Int) : List Int := if whole = true then [t] else List.replicate t.toNat 1
theorem parts_sum (whole : Bool) {t : Int} (h : 0 ≤ t) : (parts whole t).sum = t := by
  unfold parts
  split
  · simp
  · rw [List.sum_replicate_int]
    omega
theorem parts_len (whole : Bool) {t : Int} (h : 1 ≤ t) (h4 : t ≤ 4) : (parts whole t).length ≤ 4 := by
  unfold parts
  split
  · simp
  · rw [List.length_replicate]
    omega
theorem parts_each {whole : Bool} {t x : Int} (h : 1 ≤ t) (h4 : t ≤ 4) (hx : x ∈ parts whole t) : 1 ≤ x ∧ x ≤ 4 := by
  unfold parts at hx
  split at hx
  · have : x = t := by simpa using hx
    omega
  · have := (List.mem_replicate.mp hx).2
    omega
theorem sum_take_nn {l : List Int} (h : ∀ x ∈ l, 1 ≤ x) (i : Nat) : 0 ≤ (l.take i).sum := by
  induction l generalizing i with
  | nil => simp
  | cons a l ih =>
    cases i with
    | zero => simp
    | succ i =>
      rw [List.take_succ_cons, List.sum_cons]
      have := ih (fun x hx => h x (List.mem_cons_of_mem _ hx)) i
      have := h a List.mem_cons_self
      omega
def order (whole : Bool) (gs : List Sign) : List Sign := if whole = true then gs else gs.reverse
theorem order_all {n : Net} {S : List Stand} (h : Canon n S) (whole : Bool) (gs : List Sign) : hearAll n S (order whole gs) = hearAll n S gs := by
  unfold order
  split
  · rfl
  · exact hearAll_rev h gs
theorem mem_order {whole : Bool} {gs : List Sign} {g : Sign} : g ∈ order whole gs ↔ g ∈ gs := by
  unfold order
  split
  · rfl
  · exact List.mem_reverse
theorem order_len (whole : Bool) (gs : List Sign) : (order whole gs).length = gs.length := by
  unfold order
  split
  · rfl
  · exact List.length_reverse
/-- ticks in all -/
def ticksS (ds : List Deed) : Int := (ds.map (·.1)).sum
theorem ticks_take {ds : List Deed} {i : Nat} {d : Deed} (h : ds[i]? = some d) : ticksS (ds.take (i + 1)) = ticksS (ds.take i) + d.1 := by
  unfold ticksS
  rw [List.take_add_one, h, List.map_append, List.sum_append]
  simp
/-! ### tables of code stay -/
theorem Tabs.keepX {tb : List (Addr × Str)} {qs : List Addr} {H H' : Hp} (t : LamX.Tabs tb H) (x : Ex true qs H H') (h : ∀ b ∈ qs, ∀ ps, H b ≠ some (.tbl ps)) (h2 : ∀ b ∈ qs, ∀ c q, H b ≠ some (LamX.CodeO c q)) : LamX.Tabs tb H' := fun P hP => by
  obtain ⟨ps, h1, h3, h4⟩ := t P hP
  refine ⟨ps, x.keep _ _ (fun z => h _ z _ h1) (.inl rfl) h1, h3, fun pos cv hc => ?_⟩
  obtain ⟨c, e1, e2⟩ := h4 pos cv hc
  exact ⟨c, e1, x.keep _ _ (fun z => h2 _ z _ _ e2) (.inl rfl) e2⟩
theorem Tabs.keep0 {tb : List (Addr × Str)} {H H' : Hp} (t : LamX.Tabs tb H) (x : Ex true [] H H') : LamX.Tabs tb H' := Tabs.keepX t x (fun _ h => by cases h) (fun _ h => by cases h)
theorem Tabs.keepF {tb : List (Addr × Str)} {H H' : Hp} {a p : Addr} {n : Net} {r : Rule} {t : Int} {S : List Stand} {m : Nat} (h : LamX.Tabs tb H) (f : FAt K C H a p n r t S m) (x : Ex true [a, p] H H') : LamX.Tabs tb H' := by
  obtain ⟨dx, nv, rv, b, sv, lv, ps, g, h1, h2, h3, h4, h5, h6, h7, h8⟩ := f.ex
  refine Tabs.keepX h x (fun c hc qs e => ?_) (fun c hc d q e => ?_)
  · have hc' : c = a ∨ c = p := by simpa using hc
    rcases hc' with rfl | rfl
    · rw [h1] at e
      cases e
    · rw [h7] at e
      cases e
  · have hc' : c = a ∨ c = p := by simpa using hc
    rcases hc' with rfl | rfl
    · rw [h1] at e
      cases e
    · rw [h7] at e
      cases e
theorem Ex.two {H H1 H2 : Hp} {a p : Addr} (x : Ex false [] H H1) (y : Ex true [a, p] H1 H2) (ha : Nw false H a) (hp : Nw false H p) : Ex false [] H H2 :=
  (((x.nil (ps := [a, p])).trans y.weak).drop ha).drop hp
/-- the def that hands lambdas on: its code object at c, its table at q -/
structure LedT (K : PySem.W.Frag) (mg : Str → Option Value) (base : Heap) (c q : Addr) : Prop where
  ex : ∃ (f : Addr) (oc : Value) (od : Option Addr) (kV doc pm : Value) (an : Option Addr) (ct : Value) (osl : Array (Option Value)),
    K.lookup f = some ⟨oc, od, .func (PySem.W.fnOf "_law_led" "_law_led" (defArgs s__law_led) (defBody s__law_led) (defScope s__law_led) .none kV doc pm an (.ref c) ct), osl⟩ ∧ PySem.W.codeIn K (.ref c) "_law_led" = true ∧ PySem.W.keepIn K (.ref f) = true ∧ mg "_law_led" = some (.ref f)
  tb : LamX.TabB base mg c q
def lamQ : Str := "_law_led.<locals>.<lambda>"
theorem sc_led : FnScope ["_law_net_here", "_law_rule_here", "_law_deeds_here", "_law_whole", "_law_finder", "_law_ticks", "_law_signs", "_law_part", "_law_ahead", "_law_sign", "_law_stand"] ["_law_net_here", "_law_rule_here", "_law_deeds_here", "_law_whole"] (defScope s__law_led) := ⟨rfl, rfl, rfl, by decide +kernel, rfl, by decide +kernel, by decide +kernel⟩
end Fb
namespace Fb
open PySem PySem.Spec PyProof.Rows L2
variable {P : Program} {w : World} {K : PySem.W.Frag} {mg : Str → Option Value} {base : Heap} {C : Addr}
theorem Nw.weak {H : Hp} {p : Addr} (h : Nw true H p) : Nw false H p := fun o _ => h o (.inl rfl)
theorem rep_flat (k : Nat) : (List.replicate k [V.int 1]).flatten = (List.replicate k (1 : Int)).map V.int := by
  induction k with
  | zero => rfl
  | succ k ih => rw [List.replicate_succ, List.replicate_succ, List.flatten_cons, ih]; rfl
theorem parts_reads {σ : L2.St} {H : Hp} {Q : VK} {whole : Bool} {t : Int} (h5 : σ[5]? = some (some (.int t))) (t0 : 1 ≤ t) (t1 : t ≤ 4) (k : ∀ H' L, Ex true [] H H' → H' L = some (.lst ((parts whole t).map V.int)) → Nw true H L → Q (.ref L) H') :
    if whole = true then tLst (tCons (tVar 5) tNil) σ H Q else tOp rRep (tLst (tCons (tC (.int 1)) tNil)) (tVar 5) σ H Q := by
  have z1 : (1 : Nat) ≤ sizeLine := by decide
  by_cases hw : whole = true
  · rw [if_pos hw]
    exact ⟨_, h5, z1, fun L nL => k _ L (.one nL) (by unfold parts; rw [if_pos hw]; exact upd_same) (.of nL)⟩
  · rw [if_neg hw]
    refine ⟨z1, fun l nl => ⟨_, h5, l, t, [.int 1], rfl, rfl, upd_same, by omega, by omega, ?_, fun L nL => ?_⟩⟩
    · show 1 * t.toNat ≤ sizeLine
      rw [sizeLine_eq]
      omega
    · have e : Ex true [] H (upd H l (.lst [.int 1])) := .one nl
      exact k _ L (e.new nL) (by unfold parts; rw [if_neg hw, upd_same, rep_flat]) (e.nw nL)
theorem order_reads {σ : L2.St} {H : Hp} {Q : VK} {whole : Bool} {l : Addr} {gs : List V} {g : List Sign} (h6 : σ[6]? = some (some (.ref l))) (hl : H l = some (.lst gs)) (hg : Paired (fun v s => Dp K H v (encS s)) gs g)
    (k : ∀ H' L xs, Ex true [] H H' → H' L = some (.lst xs) → Paired (fun v s => Dp K H' v (encS s)) xs (order whole g) → (L = l ∨ Nw true H L) → Q (.ref L) H') :
    if whole = true then tVar 6 σ H Q else tRevL K (tVar 6) σ H Q := by
  by_cases hw : whole = true
  · rw [if_pos hw]
    exact ⟨_, h6, k H l gs .refl hl (by unfold order; rw [if_pos hw]; exact hg) (.inl rfl)⟩
  · rw [if_neg hw]
    refine ⟨_, h6, l, gs, rfl, .of hl, fun L nL => ?_⟩
    have e : Ex true [] H (upd H L (.lst gs.reverse)) := .one nL
    exact k _ L _ e upd_same (by unfold order; rw [if_neg hw]; exact e.pr tt_S hg.rev) (.inr (.of nL))
theorem ne_empty {H : Hp} {D q : Addr} {Q : VK} (hD : H D = some (.lst [])) (nq : H q = none) (k : Q (.bl false) (upd H q (.lst []))) : rNeD K (.ref D) (.ref q) (upd H q (.lst [])) Q := by
  refine ⟨.list [], .list [], .lst (.of ?_) .nil, .lst (.of upd_same) .nil, by decide, by decide, k⟩
  rw [upd_ne (ne_of_none hD nq)]
  exact hD
theorem stand_in {H : Hp} {x v : V} {s : Stand} {S : List Stand} {Q : VK} (hx : Dp K H x (encS s)) (hv : Dp K H v (encT S)) (hs : s ∈ S) (k : Q (.bl false) H) : rNotInT K x v H Q := by
  refine ⟨encS s, S.map encS, hx, hv, tt_shaped (by decide) (tt_S s), tt_shaped (by decide) (tt_T S), ?_⟩
  rw [any_S, decide_eq_true hs]
  exact k
def spLed (K : PySem.W.Frag) (C : Addr) (q : Addr) : Sp := fun vs H Q _ => ∃ (nv rv : V) (D : Addr) (whole : Bool) (n : Net) (r : Rule) (pth : Nat → Stand) (ds : List Deed), vs = [nv, rv, .ref D, .bl whole] ∧ Dp K H nv (encN n) ∧ Dp K H rv (encR r) ∧ NetOk n ∧ RuleOk r ∧ DeedsAt K H D ds ∧ DeedsOk n r pth ds ∧ ds.length ≤ 5 ∧ LamX.Tabs [(q, lamQ)] H ∧
  ∀ H' a p m, Ex false [] H H' → LamX.Tabs [(q, lamQ)] H' → FAt K C H' a p n r (ticksS ds) (runS n r ds) m → Nw false H a → Nw false H p → Q (.ref a) H'
theorem c_led (T : Txt K mg C) {c q : Addr} (L : LedT K mg base c q) : Cl P w K mg base 10 "_law_led" (spLed K C q) := by
  obtain ⟨f, oc, od, kV, doc, pm, an, ct, osl, lk, hcd, kp, hm⟩ := L.ex
  refine ⟨f, _, ["_law_net_here", "_law_rule_here", "_law_deeds_here", "_law_whole"], fn_of lk hcd sc_led (fun vs H Q E h => ?_) fun A outer s H vs Q E hr h => ?_, hm, kp,
    Fun.binds (x := "_law_led") (qual := "_law_led") (st := s__law_led) (f := f) ⟨⟨oc, od, kV, doc, pm, an, .ref c, ct, osl, rfl, lk, hcd⟩, kp⟩ (fun _ _ _ _ _ _ us hl => match us, hl with | [_, _, _, _], _ => rfl)⟩
  · obtain ⟨nv, rv, D, whole, n, r, pth, ds, rfl, _⟩ := h
    rfl
  · obtain ⟨nv, rv, D, whole, n, r, pth, ds, rfl, hn, hrv, nok, rok, hD, dok, dl, tabs, k⟩ := h
    have nd := sc_led.nd
    have hu := hr.units
    have hu2 := h65 hr
    obtain ⟨fI, fdI, M, FI, bI⟩ := ok_init (P := P) (w := w) (base := base) T
    obtain ⟨g, fdg, Fg, mg_g⟩ := T.d__law_said
    obtain ⟨ocg, odg, kVg, docg, pmg, ang, cdg, ctg, oslg, rfl, lkg, hcg⟩ := Fg.ex
    have bg := Fg.binds (ps := ["_law_call"]) (fun _ _ _ _ _ _ us hl => match us, hl with | [_], _ => rfl)
    have body : ∃ t, PSs (cxOf CX0 P w K mg base ["_law_net_here", "_law_rule_here", "_law_deeds_here", "_law_whole", "_law_finder", "_law_ticks", "_law_signs", "_law_part", "_law_ahead", "_law_sign", "_law_stand"] "_law_led" (defScope s__law_led) f (.ref c) A outer s H E).nox (defBody s__law_led) t ∧
        t { nx := fun _ H' => Q .non H', rt := Q } (L2.start ["_law_net_here", "_law_rule_here", "_law_deeds_here", "_law_whole", "_law_finder", "_law_ticks", "_law_signs", "_law_part", "_law_ahead", "_law_sign", "_law_stand"] [nv, rv, .ref D, .bl whole]) H := by
      refine ⟨_, pss_cons (ps_set (i := 4) nd rfl (Or.inr rfl) (pe_make M FI hr rfl T.mgC bI .nil pass0 (pa_cons (pv 0) (pa_cons (pv 1) pa_nil))))
        (pss_cons (ps_for PassesOwn.never rfl (pi_list (pv 2)) (pg_tup rfl (pgs_cons (pg_name (i := 5) nd rfl (Or.inl rfl)) (pgs_cons (pg_name (i := 6) nd rfl (Or.inl rfl)) pgs_nil)))
          (pss_cons (ps_for PassesOwn.never rfl (pi_list (pe_ifExp (pt_val (pv 3)) (pe_lst (pa_cons (pv 5) pa_nil)) (pe_op op_rep (pe_lst (pa_cons pe_int pa_nil)) (pv 5)))) (pg_name (i := 7) nd rfl (Or.inl rfl))
            (pss_cons (ps_set (i := 8) nd rfl (Or.inr rfl) (pe_mm0 (c_stands T) T.cl hr (pv 4)))
            (pss_cons (ps_expr (pe_mm (c_go T) T.cl hr (pv 4) (pa_cons (pv 7) pa_nil)))
            (pss_one (ps_if (pt_cmpR (op_neD hu) (pe_lc (own := [("_law_stand", 10)]) (g := gName 10) (tt := tTest (tOp (rNotInT K) (tVar 10) (tMeth C "stands" (spStands K C) [] E0 (tVar 4) tNil))) (te := tVar 10) rfl nd (pi_tup (pv 8))
                (blkOk_by (N := ["_law_net_here", "_law_rule_here", "_law_deeds_here", "_law_whole", "_law_finder", "_law_ticks", "_law_signs", "_law_part", "_law_ahead", "_law_sign", "_law_stand"]) (sc := defScope s__law_led) (by decide +kernel)) (fun _ _ _ _ _ => pg_name (i := 10) nd rfl (Or.inl rfl))
                (fun _ _ _ _ _ => pts_one (pt_cmpR (op_notInT hu2) (pv 10) (pe_mm0 (c_stands T) T.cl hr (pv 4)) rfl)) (fun _ _ _ _ _ => pv 10)) (pe_lst pa_nil) (nomark _)) (pss_one ps_never) pss_nil)))))
          (pss_one (ps_for PassesOwn.never rfl (pi_list (pe_ifExp (pt_val (pv 3)) (pv 6) (pe_revL (pv 6)))) (pg_name (i := 9) nd rfl (Or.inr rfl))
            (pss_cons (ps_set (i := 8) nd rfl (Or.inr rfl) (pe_mm0 (c_stands T) T.cl hr (pv 4)))
            (pss_cons (ps_if (pt_cmpR op_ne (LamX.pe_lamcall (k := 7) (T := [(q, lamQ)]) (TT := TSaid) (t := fun _ => tMeth C "hear" (spHear K C) [] E0 (tVar 4) (tCons (tVar 9) tNil)) rfl mg_g Fg.kp lkg hcg bg sc_said rfl (Or.inl rfl) (said_gives T.b_repr) L.tb rfl (List.mem_singleton.mpr (by rfl)) (fun z hz _ => by rw [List.mem_singleton.mp hz]; rfl) hr (LamX.lamS_by (sc := defScope s__law_led) (by decide +kernel)) (by rfl) (fun _ _ _ _ _ => rfl)
                (fun A' outer' s' H' E' f' c' hr' => pe_mm (c_hear T) T.cl hr' (pv 4) (pa_cons (pv 9) pa_nil))) pe_str (nomark _)) (pss_one ps_never) pss_nil)
            (pss_one (ps_if (pt_cmpR (op_neD hu) (pe_lc (own := [("_law_stand", 10)]) (g := gName 10) (tt := tOr (tTest (tOp (rNotInT K) (tVar 10) (tVar 8))) (tNot (tB (tCall (spFitsP K) [] E0 (tCons (tVar 0) (tCons (tVar 10) (tCons (tVar 9) tNil))))))) (te := tC (.int 1)) rfl nd (pi_tup (pe_mm0 (c_stands T) T.cl hr (pv 4)))
                (blkOk_by (N := ["_law_net_here", "_law_rule_here", "_law_deeds_here", "_law_whole", "_law_finder", "_law_ticks", "_law_signs", "_law_part", "_law_ahead", "_law_sign", "_law_stand"]) (sc := defScope s__law_led) (by decide +kernel)) (fun _ _ _ _ _ => pg_name (i := 10) nd rfl (Or.inl rfl))
                (fun _ _ _ _ _ => pts_one (PW.pt (pw_or (pt_cmpR (op_notInT hu2) (pv 10) (pv 8) rfl) (pw_or1 (pt_not (pt_val (pe_f (c_fits T) hr (pa_cons (pv 0) (pa_cons (pv 10) (pa_cons (pv 9) pa_nil)))))))))) (fun _ _ _ _ _ => pe_int)) (pe_lst pa_nil) (nomark _)) (pss_one ps_never) pss_nil))))))))
        (pss_one (ps_ret (pv 4)))), ?_⟩
      refine ⟨_, rfl, _, rfl, fun a dx na ndx nea => ⟨a, dx, nv, rv, n, r, rfl, upd_same, ?_, ?_, nok, rok, fun H1 p x1 np fa => ⟨rfl, ?_⟩⟩⟩
      · exact ((Ex.one ndx).new (o := .ins C dx []) (by rw [upd_ne (Ne.symm nea)]; exact na)).net hn
      · exact ((Ex.one ndx).new (o := .ins C dx []) (by rw [upd_ne (Ne.symm nea)]; exact na)).rule hrv
      have e0 : Ex true [] H (upd (upd H dx (.own a)) a (.ins C dx [])) := (Ex.one ndx).new (by rw [upd_ne (Ne.symm nea)]; exact na)
      have nwa : Nw false H a := .of na
      have nwp : Nw false H p := (e0.nws np).weak
      have e1 : Ex false [] H H1 := (((Ex.nil e0).trans x1).drop (.of na)).weak
      have tabs1 : LamX.Tabs [(q, lamQ)] H1 := Tabs.keepX (Tabs.keep0 tabs e0) x1 (fun b hb ps e => by
        rw [List.mem_singleton.mp hb, upd_same] at e
        cases e) (fun b hb c' q' e => by
        rw [List.mem_singleton.mp hb, upd_same] at e
        cases e)
      obtain ⟨vs, lD, pD⟩ := hD
      refine ⟨_, rfl, D, rfl, ⟨_, .of (e1.lst lD (by simp))⟩, for_it (walk_list (K := K) (a := D) (xs := vs)) (fun i σ H' => ∃ (z5 z6 z7 z8 z9 z10 : Option V) (m : Nat), σ = [some nv, some rv, some (.ref D), some (.bl whole), some (.ref a), z5, z6, z7, z8, z9, z10] ∧ Ex false [] H H' ∧ LamX.Tabs [(q, lamQ)] H' ∧ FAt K C H' a p n r (ticksS (ds.take i)) (runS n r (ds.take i)) m ∧ m ≤ 6 * i)
        ⟨none, none, none, none, none, none, 0, rfl, e1, tabs1, fa, Nat.le_refl _⟩ (fun i σ H' _ ⟨_, _, _, _, _, _, _, _, e, _⟩ => .of (e.lst lD (by simp))) ?_ ?_⟩
      · rintro i x σ H2 H3 hi ⟨z5, z6, z7, z8, z9, z10, m, rfl, e3, tabs3, f3, m3⟩ ⟨rfl, hx⟩
        obtain ⟨d, hd, b, l, gs, rfl, sb, lg, _, pg⟩ := pD.at_ hx
        have hh := dok.deed i d hd
        have hlen := pD.length
        have i5 : i < 5 := by omega
        have cS : Canon n (runS n r (ds.take i)) := Canon.run nok r _
        have tr := true_run nok dok i (by omega)
        have t0 := hh.t0
        have t1 := hh.t1
        refine ⟨b, _, rfl, e3.sqT sb, rfl, _, _, rfl, _, _, rfl, rfl, ?_⟩
        refine ⟨_, rfl, whole, rfl, ?_⟩
        refine parts_reads rfl t0 t1 fun H4 Lp x4 lLp nLp => ⟨Lp, rfl, ⟨_, .of lLp⟩, ?_⟩
        have e4 := e3.trans x4.weak
        have f4 := f3.keep x4
        have tabs4 := Tabs.keep0 tabs3 x4
        have nLa : Lp ≠ a := by
          obtain ⟨dx', nv', rv', b', sv', lv', ps', g', i1, _⟩ := f3.ex
          rintro rfl
          exact nLp _ (.inl rfl) i1
        have nLp' : Lp ≠ p := by
          obtain ⟨dx', nv', rv', b', sv', lv', ps', g', i1, _, _, _, _, _, i7, _⟩ := f3.ex
          rintro rfl
          exact nLp _ (.inl rfl) i7
        refine for_it (walk_list (K := K) (a := Lp) (xs := (parts whole d.1).map V.int)) (fun j σ H' => ∃ (z7 z8 z9 z10 : Option V) (m' : Nat), σ = [some nv, some rv, some (.ref D), some (.bl whole), some (.ref a), some (.int d.1), some (.ref l), z7, z8, z9, z10] ∧ Ex false [] H H' ∧ Ex false [a, p] H4 H' ∧ LamX.Tabs [(q, lamQ)] H' ∧
            FAt K C H' a p n r (ticksS (ds.take i) + ((parts whole d.1).take j).sum) (goS n r (runS n r (ds.take i)) ((parts whole d.1).take j).sum) m' ∧ m' ≤ 6 * i + j)
          ⟨z7, z8, z9, z10, m, rfl, e4, .refl, tabs4, ?_, by omega⟩ (fun j σ H' _ ⟨_, _, _, _, _, _, _, e, _⟩ => .of (e.lst lLp (by simp [nLa, nLp']))) ?_ ?_
        · have es : ((parts whole d.1).take 0).sum = 0 := rfl
          rw [es, Int.add_zero, goS_zero nok r cS]
          exact f4
        · rintro j y σ H5' H5 hj ⟨z7, z8, z9, z10, m', rfl, e5, o5, tabs5, f5, m5⟩ ⟨rfl, hy⟩
          obtain ⟨part, hpt, rfl⟩ : ∃ part, (parts whole d.1)[j]? = some part ∧ y = .int part := by
            rw [List.getElem?_map] at hy
            cases e : (parts whole d.1)[j]? with
            | none => rw [e] at hy; cases hy
            | some c => rw [e] at hy; cases hy; exact ⟨c, rfl, rfl⟩
          have pe := parts_each t0 t1 (List.mem_of_getElem? hpt)
          have snn := sum_take_nn (l := parts whole d.1) (fun x hx => (parts_each t0 t1 hx).1) j
          have pl := parts_len whole t0 t1
          rw [List.length_map] at hj
          have c5 : Canon n (goS n r (runS n r (ds.take i)) ((parts whole d.1).take j).sum) := Canon.go nok r _ _
          have egg := goS_goS nok rok cS.inn snn (show 0 ≤ part by omega)
          rw [← sum_take hpt] at egg
          obtain ⟨dx5, nv5, rv5, b5, sv5, lv5, ps5, g5, i5', _⟩ := id f5.ex
          refine ⟨_, rfl, a, dx5, _, rfl, i5', rfl, a, p, n, r, _, _, m', rfl, f5, fun av dav => ?_⟩
          refine ⟨_, rfl, a, dx5, _, rfl, i5', rfl, _, rfl, a, p, n, r, _, _, m', part, rfl, f5, by omega, nok, rok, c5, ⟨by omega, by omega⟩, fun H6 x6 f6 => ?_⟩
          have e6 := Ex.two e5 x6 nwa nwp
          have o6 : Ex false [a, p] H4 H6 := o5.trans x6.weak
          have tabs6 := Tabs.keepF tabs5 f5 x6
          rw [egg] at f6
          have dav6 := x6.stands dav
          obtain ⟨sa, sxs, rfl, hsa, psa⟩ := dav6.seq
          refine ⟨_, rfl, sa, rfl, ⟨_, hsa⟩, fun D2 hD2 => ?_⟩
          have y6 : Ex true [] H6 (upd H6 D2 (.lst [])) := .one hD2
          refine lc_it (walk_tup (K := K) (a := sa) (xs := sxs)) (fun i H' => Ex true [] H6 H' ∧ H' D2 = some (.lst [])) ⟨y6, upd_same⟩ (fun i H' _ ⟨e, _⟩ => e.sqT hsa) ?_ ?_
          · rintro i2 x2 H7' H7 hi2 ⟨y7, l7⟩ ⟨rfl, hx2⟩
            obtain ⟨s2, hs2, ds2⟩ := psa.at_ hx2
            have f7 := f6.keep y7
            obtain ⟨dx7, nv7, rv7, b7, sv7, lv7, ps7, g7, i7, _⟩ := id f7.ex
            refine ⟨rfl, _, rfl, _, rfl, a, dx7, _, rfl, i7, rfl, a, p, n, r, _, _, m' + 1, rfl, f7, fun v dv => ?_⟩
            refine stand_in (y7.stand ds2) dv ?_ ⟨false, rfl, ?_⟩
            · have := stay_go nok rok c5.inn (show 0 ≤ part by omega) (List.mem_of_getElem? hs2)
              rw [goS_goS nok rok cS.inn snn (show 0 ≤ part by omega), ← sum_take hpt] at this
              exact this
            · exact iteF ⟨y7, l7⟩
          · rintro H7 ⟨y7, l7⟩
            refine ⟨Nat.zero_le _, fun q7 nq7 => ?_⟩
            refine ne_empty l7 nq7 ⟨false, rfl, iteF ?_⟩
            have y8 := y7.new (o := .lst []) nq7
            refine ⟨_, _, _, _, m' + 1, rfl, e6.trans y8.weak, o6.trans ((Ex.nil y8).weak), Tabs.keep0 tabs6 y8, ?_, by omega⟩
            have f8 := f6.keep y8
            rw [sum_take hpt] at f8 ⊢
            rw [← Int.add_assoc]
            exact f8
        · rintro σ H5 ⟨z7, z8, z9, z10, m', rfl, e5, o5, tabs5, f5, m5⟩
          rw [List.length_map, List.take_length, parts_sum whole (by omega)] at f5
          rw [List.length_map] at m5
          have pl := parts_len whole t0 t1
          have c1 : Canon n (goS n r (runS n r (ds.take i)) d.1) := Canon.go nok r _ _
          have tr1 : pth (i + 1) ∈ goS n r (runS n r (ds.take i)) d.1 := true_go nok hh tr
          refine ⟨_, rfl, whole, rfl, ?_⟩
          refine order_reads rfl (e5.lst lg (by simp)) (e5.pr tt_S pg) fun H6 L xs x6 lL pL hL => ⟨L, rfl, ⟨_, .of lL⟩, ?_⟩
          have e6 := e5.trans x6.weak
          have f6 := f5.keep x6
          have tabs6 := Tabs.keep0 tabs5 x6
          have nLa : L ≠ a := by
            obtain ⟨dx', nv', rv', b', sv', lv', ps', g', i1, _⟩ := f5.ex
            rcases hL with rfl | hL
            · rintro rfl
              exact nwa _ (.inr fun q z => by cases z) lg
            · rintro rfl
              exact hL _ (.inl rfl) i1
          have nLp2 : L ≠ p := by
            obtain ⟨dx', nv', rv', b', sv', lv', ps', g', i1, _, _, _, _, _, i7, _⟩ := f5.ex
            rcases hL with rfl | hL
            · rintro rfl
              exact nwp _ (.inr fun q z => by cases z) lg
            · rintro rfl
              exact hL _ (.inl rfl) i7
          have olen := order_len whole d.2
          have few := hh.few
          have xlen := pL.length
          refine for_it (walk_list (K := K) (a := L) (xs := xs)) (fun j σ H' => ∃ (z7 z8 z9 z10 : Option V) (m' : Nat), σ = [some nv, some rv, some (.ref D), some (.bl whole), some (.ref a), some (.int d.1), some (.ref l), z7, z8, z9, z10] ∧ Ex false [] H H' ∧ Ex false [a, p] H6 H' ∧ LamX.Tabs [(q, lamQ)] H' ∧
              FAt K C H' a p n r (ticksS (ds.take i) + d.1) (hearAll n (goS n r (runS n r (ds.take i)) d.1) ((order whole d.2).take j)) m' ∧ m' ≤ 6 * i + 4 + j)
            ⟨z7, z8, z9, z10, m', rfl, e6, .refl, tabs6, f6, by omega⟩ (fun j σ H' _ ⟨_, _, _, _, _, _, _, e, _⟩ => .of (e.lst lL (by simp [nLa, nLp2]))) ?_ ?_
          · rintro j y σ H7' H7 hj ⟨z7, z8, z9, z10, m', rfl, e7, o7, tabs7, f7, m7⟩ ⟨rfl, hy⟩
            obtain ⟨g, hg, dg⟩ := pL.at_ hy
            have gm : g ∈ d.2 := mem_order.mp (List.mem_of_getElem? hg)
            have gok := (hh.signs g gm).1
            have cj : Canon n (hearAll n (goS n r (runS n r (ds.take i)) d.1) ((order whole d.2).take j)) := c1.hearAll
            have trj : pth (i + 1) ∈ hearS n (hearAll n (goS n r (runS n r (ds.take i)) d.1) ((order whole d.2).take j)) g := by
              rw [← hearAll_take hg, mem_hearAll]
              exact ⟨tr1, fun g' hg' => (hh.signs g' (mem_order.mp (List.mem_of_mem_take hg'))).2⟩
            obtain ⟨dx7, nv7, rv7, b7, sv7, lv7, ps7, g7, i7, _⟩ := id f7.ex
            refine ⟨_, rfl, a, dx7, _, rfl, i7, rfl, a, p, n, r, _, _, m', rfl, f7, fun av dav => ?_⟩
            refine ⟨tabs7, fun H8 eN T8 => ?_⟩
            have x8 : Ex false [] H7 H8 := Ex.extN eN fun _ _ _ => True.intro
            have f8 := f7.keep x8
            obtain ⟨dx8, nv8, rv8, b8, sv8, lv8, ps8, g8, i8, _⟩ := id f8.ex
            have dg8 := x8.stand (o7.stand dg)
            refine ⟨_, rfl, a, dx8, _, rfl, i8, rfl, _, rfl, a, p, n, r, _, _, m', y, g, rfl, f8, by omega, nok, cj, dg8, gok, (fun z => by rw [z] at trj; cases trj), fun H9 x9 f9 => ⟨rfl, ?_⟩⟩
            refine ⟨rfl, false, by simp, iteF ?_⟩
            have e8 := e7.trans x8
            have e9 := Ex.two e8 x9 nwa nwp
            have o9 : Ex false [a, p] H6 H9 := (o7.trans (Ex.nil x8)).trans x9.weak
            have tabs9 := Tabs.keepF T8 f8 x9
            have dav9 := x9.stands (x8.stands dav)
            have dg9 := x9.stand dg8
            have dn9 := e9.net hn
            obtain ⟨dx9, nv9, rv9, b9, sv9, lv9, ps9, g9, i9, _⟩ := id f9.ex
            refine ⟨_, rfl, a, dx9, _, rfl, i9, rfl, a, p, n, r, _, _, m' + 1, rfl, f9, fun v dv => ?_⟩
            obtain ⟨sa, sxs, rfl, hsa, psa⟩ := dv.seq
            refine ⟨sa, rfl, ⟨_, hsa⟩, fun D2 hD2 => ?_⟩
            have y9 : Ex true [] H9 (upd H9 D2 (.lst [])) := .one hD2
            refine lc_it (walk_tup (K := K) (a := sa) (xs := sxs)) (fun i H' => Ex true [] H9 H' ∧ H' D2 = some (.lst [])) ⟨y9, upd_same⟩ (fun i H' _ ⟨e, _⟩ => e.sqT hsa) ?_ ?_
            · rintro i2 x2 Ha' Ha hi2 ⟨ya, la⟩ ⟨rfl, hx2⟩
              obtain ⟨s2, hs2, ds2⟩ := psa.at_ hx2
              have s2m := mem_hearS.mp (List.mem_of_getElem? hs2)
              refine ⟨rfl, _, rfl, _, rfl, ?_⟩
              refine stand_in (ya.stand ds2) (ya.stands dav9) s2m.1 ⟨false, rfl, iteF ?_⟩
              refine ⟨_, rfl, _, rfl, _, rfl, nv, x2, y, n, s2, g, rfl, ya.net dn9, ya.stand ds2, ya.stand dg9, nok, cj.inn _ s2m.1, gok, fun Hb yb => ⟨_, rfl, ?_⟩⟩
              rw [s2m.2]
              exact iteF ⟨ya.trans yb, yb.lst la (by simp)⟩
            · rintro Ha ⟨ya, la⟩
              refine ⟨Nat.zero_le _, fun qa nqa => ?_⟩
              refine ne_empty la nqa ⟨false, rfl, iteF ?_⟩
              have yb := ya.new (o := .lst []) nqa
              refine ⟨_, _, _, _, m' + 1, rfl, e9.trans yb.weak, o9.trans ((Ex.nil yb).weak), Tabs.keep0 tabs9 yb, ?_, by omega⟩
              rw [hearAll_take hg]
              exact f9.keep yb
          · rintro σ H7 ⟨z7, z8, z9, z10, m', rfl, e7, o7, tabs7, f7, m7⟩
            rw [xlen, List.take_length, order_all c1] at f7
            refine ⟨_, _, _, _, _, _, m', rfl, e7, tabs7, ?_, by omega⟩
            rw [ticks_take hd, runS_take hd]
            exact f7
      · rintro σ H2 ⟨z5, z6, z7, z8, z9, z10, m, rfl, e2, tabs2, f2, m2⟩
        rw [pD.length, List.take_length] at f2
        exact ⟨_, rfl, k H2 a p m e2 tabs2 f2 nwa nwp⟩
    obtain ⟨t, h1, h2⟩ := body
    exact ⟨t, h1.nox, h2⟩
end Fb
namespace Fb
open PySem PySem.Spec PyProof.Rows L2
variable {P : Program} {w : World} {K : PySem.W.Frag} {mg : Str → Option Value} {base : Heap} {C : Addr}
/-! ### the other three -/
theorem house_map {φ : Way → Way} (hb : ∀ w, (φ w).1 = w.1) (ho : ∀ w, WayS w → 0 ≤ w.1 → w.1 ≤ 255 → WayOk (φ w)) {h : House} (hh : HouseS h) : HouseOk (h.map φ) := by
  refine ⟨by rw [List.length_map]; exact hh.ok.l0, by rw [List.length_map]; exact hh.ok.l1, fun w hw => ?_, ?_⟩
  · obtain ⟨w', hw', rfl⟩ := List.mem_map.mp hw
    have := hh.ok.ways w' hw'
    exact ho w' (hh.ways w' hw') this.b0 this.b1
  · rw [List.map_map, show ((fun w : Way => w.1) ∘ φ) = fun w => w.1 from funext hb]
    exact hh.ok.rise
theorem netOk_mir {n : Net} (hn : NetS n) : NetOk (mirN n) := by
  have o := hn.ok
  have w0 := o.w0
  have w1 := o.w1
  refine ⟨o.w0, o.w1, o.h0, o.h1, o.c0, o.c1, o.s0, o.s1, ?_, ?_, fun h hh => ?_⟩
  · show 1 ≤ (n.houses.map _).length
    rw [List.length_map]
    exact o.l0
  · show (n.houses.map _).length ≤ 6
    rw [List.length_map]
    exact o.l1
  · obtain ⟨h', hh', rfl⟩ := List.mem_map.mp (show h ∈ n.houses.map fun h => h.map (mirW n.wide) from hh)
    refine house_map (φ := mirW n.wide) (fun _ => rfl) (fun w ws b0 b1 => ?_) (hn.hs h' hh')
    have := ws.x0
    have := ws.x1
    have := ws.y0
    have := ws.y1
    have := ws.r0
    have := ws.r1
    have := ws.u0
    have := ws.u1
    unfold mirW
    refine ⟨?_, ?_, ?_, ?_, ?_, ?_, ?_, ?_, ?_, ?_⟩ <;> (simp only; omega)
theorem netOk_exc {n : Net} (hn : NetS n) : NetOk (excN n) := by
  have o := hn.ok
  refine ⟨o.h0, o.h1, o.w0, o.w1, o.c0, o.c1, o.s0, o.s1, ?_, ?_, fun h hh => ?_⟩
  · show 1 ≤ (n.houses.map _).length
    rw [List.length_map]
    exact o.l0
  · show (n.houses.map _).length ≤ 6
    rw [List.length_map]
    exact o.l1
  · obtain ⟨h', hh', rfl⟩ := List.mem_map.mp (show h ∈ n.houses.map fun h => h.map excW from hh)
    refine house_map (φ := excW) (fun _ => rfl) (fun w ws b0 b1 => ?_) (hn.hs h' hh')
    have := ws.x0
    have := ws.x1
    have := ws.y0
    have := ws.y1
    have := ws.r0
    have := ws.r1
    have := ws.u0
    have := ws.u1
    unfold excW
    refine ⟨?_, ?_, ?_, ?_, ?_, ?_, ?_, ?_, ?_, ?_⟩ <;> (simp only; omega)
theorem netOk_rev {n : Net} (hn : NetS n) : NetOk (revN n) := by
  have o := hn.ok
  refine ⟨o.w0, o.w1, o.h0, o.h1, o.c0, o.c1, o.s0, o.s1, ?_, ?_, fun h hh => ?_⟩
  · show 1 ≤ n.houses.reverse.length
    rw [List.length_reverse]
    exact o.l0
  · show n.houses.reverse.length ≤ 6
    rw [List.length_reverse]
    exact o.l1
  · exact o.houses h (List.mem_reverse.mp (show h ∈ n.houses.reverse from hh))
theorem deeds_id (ds : List Deed) : (ds.map fun d => (d.1, d.2.map (id : Sign → Sign))) = ds := by
  have e : (fun d : Deed => (d.1, d.2.map (id : Sign → Sign))) = id := funext fun d => by simp
  rw [e, List.map_id]
theorem ticks_deeds {n n' : Net} (Y : Sym n n') (ds : List Deed) : ticksS (Y.deeds ds) = ticksS ds := by
  unfold ticksS Sym.deeds
  rw [List.map_map]
  rfl
/-- the stands of the same field, otherwise told, sorted -/
theorem sym_sorted {n n' : Net} (Y : Sym n n') (hn : NetOk n) (hn' : NetOk n') {r : Rule} {pth : Nat → Stand} {ds : List Deed} (hd : DeedsOk n r pth ds) {S' : List Stand} (hs : SS S') (hm : ∀ s, s ∈ S' ↔ s ∈ (runS n r ds).map Y.f) : S' = runS n' r (Y.deeds ds) :=
  hs.ext (Canon.run hn' r _).ss fun x => by
    rw [hm, List.mem_map]
    constructor
    · rintro ⟨s, h, rfl⟩
      exact (Y.run hn hn' r hd.signsOk s).mpr h
    · intro h
      refine ⟨Y.f x, ?_, Y.ff x⟩
      rw [← Y.run hn hn' r hd.signsOk, Y.ff]
      exact h
theorem sym_nodup {n n' : Net} (Y : Sym n n') (hn : NetOk n) (r : Rule) (ds : List Deed) : ((runS n r ds).map Y.f).Nodup := by
  have h := (Canon.run hn r ds).ss.nodup
  unfold List.Nodup at *
  rw [List.pairwise_map]
  refine h.imp fun {a b} hab e => hab ?_
  rw [← Y.ff a, e, Y.ff b]
theorem sym_id {n : Net} {S S' : List Stand} (h : Canon n S) (h' : Canon n S') (e : ∀ s, s ∈ S' ↔ s ∈ S) : S' = S := h'.ss.ext h.ss e
/-- a list equal to another, not unequal -/
theorem list_same {H : Hp} {a b : Addr} {xs ys : List V} {S : List Stand} (ha : H a = some (.lst xs)) (hb : H b = some (.lst ys)) (pa : Paired (fun v s => Dp K H v (encS s)) xs S) (pb : Paired (fun v s => Dp K H v (encS s)) ys S) :
    Dp K H (.ref a) (.list (S.map encS)) ∧ Dp K H (.ref b) (.list (S.map encS)) ∧ SeqAt.shaped (.list (S.map encS)) = true ∧ PyData.eqv (.list (S.map encS)) (.list (S.map encS)) = true := by
  have sh : SeqAt.shaped (.list (S.map encS)) = true := tt_shapedL (k := 1) (by decide) fun d hd => by
    obtain ⟨s, _, rfl⟩ := List.mem_map.mp hd
    exact tt_S s
  exact ⟨.lst (.of ha) (.of pa), .lst (.of hb) (.of pb), sh, SeqAt.eqv_refl _ (SeqAt.canLay_of_shaped sh)⟩
def spOthers (K : PySem.W.Frag) (q : Addr) : Sp := fun vs H Q _ => ∃ (nv rv sv : V) (D : Addr) (n : Net) (r : Rule) (pth : Nat → Stand) (ds : List Deed), vs = [nv, rv, .ref D, sv] ∧ Dp K H nv (encN n) ∧ Dp K H rv (encR r) ∧ NetS n ∧ RuleOk r ∧ DeedsAt K H D ds ∧ DeedsOk n r pth ds ∧ ds.length ≤ 5 ∧ Dp K H sv (encT (runS n r ds)) ∧ LamX.Tabs [(q, lamQ)] H ∧
  ∀ H', Ex false [] H H' → LamX.Tabs [(q, lamQ)] H' → Q (.bl true) H'
abbrev NOth : List Str := ["_law_net_here", "_law_rule_here", "_law_deeds_here", "_law_stands_here", "_law_last", "_law_others", "_law_ticks", "_law_signs", "_law_flipped", "_law_sided", "_law_named_so", "_law_house_here", "_law_sent", "_law_heard_here", "_law_x", "_law_y", "_law_off"]
theorem sc_others : FnScope NOth ["_law_net_here", "_law_rule_here", "_law_deeds_here", "_law_stands_here"] (defScope s__law_others_right) := ⟨rfl, rfl, rfl, by decide +kernel, rfl, by decide +kernel, by decide +kernel⟩
theorem c_others (T : Txt K mg C) {c q : Addr} (L : LedT K mg base c q) : Cl P w K mg base 11 "_law_others_right" (spOthers K q) := by
  refine T.d__law_others_right.mk (ps := ["_law_net_here", "_law_rule_here", "_law_deeds_here", "_law_stands_here"]) (fun _ _ _ _ _ _ us hl => match us, hl with | [_, _, _, _], _ => rfl) sc_others (fun vs H Q E h => ?_) fun f cdv A outer s H vs Q E hr h => ?_
  · obtain ⟨nv, rv, sv, D, n, r, pth, ds, rfl, _⟩ := h
    rfl
  · obtain ⟨nv, rv, sv, D, n, r, pth, ds, rfl, hn, hrv, nok, rok, hD, dok, dl, hsv, tabs, k⟩ := h
    have nd := sc_others.nd
    have hu := hr.units
    have hu2 := h65 hr
    refine ⟨_, pss_cons (ps_asg (pe_tup (pa_cons (pe_op op_sub (pe_callB call_len_seq (by rfl) T.b_len PySem.boot_len (pa_cons (pe_ix ix_tup (pv 0) pe_int (fun _ _ => rfl)) pa_nil)) pe_int) (pa_cons (pe_lst pa_nil) pa_nil))) (pg_tup rfl (pgs_cons (pg_name (i := 4) nd rfl (Or.inr rfl)) (pgs_cons (pg_name (i := 5) nd rfl (Or.inl rfl)) pgs_nil))))
      (pss_cons (ps_for PassesOwn.never rfl (pi_list (pv 2)) (pg_tup rfl (pgs_cons (pg_name (i := 6) nd rfl (Or.inl rfl)) (pgs_cons (pg_name (i := 7) nd rfl (Or.inl rfl)) pgs_nil)))
        (pss_one (ps_expr (pe_bm PySem.F.plainAttrs_list PySem.F.slot_list_append PySem.F.type_list_append mt_append (pv 5) (pa_cons (pe_tup (pa_cons (pv 6) (pa_cons
          (pe_lc (own := [("_law_house_here", 11), ("_law_sent", 12), ("_law_heard_here", 13)]) (g := gTup K 3 (gCons (gName 11) (gCons (gName 12) (gCons (gName 13) gNil)))) (tt := tYes) (te := tTup (tCons (tOp rMi (tVar 4) (tVar 11)) (tCons (tVar 12) (tCons (tVar 13) tNil)))) rfl nd (pi_list (pv 7))
            (blkOk_by (N := NOth) (sc := defScope s__law_others_right) (by decide +kernel)) (fun _ _ _ _ _ => pg_tup rfl (pgs_cons (pg_name (i := 11) nd rfl (Or.inl rfl)) (pgs_cons (pg_name (i := 12) nd rfl (Or.inl rfl)) (pgs_cons (pg_name (i := 13) nd rfl (Or.inl rfl)) pgs_nil)))) (fun _ _ _ _ _ => pts_nil)
            (fun _ _ _ _ _ => pe_tup (pa_cons (pe_op op_sub (pv 4) (pv 11)) (pa_cons (pv 12) (pa_cons (pv 13) pa_nil))))) pa_nil))) pa_nil)))))
      (pss_cons (ps_set (i := 8) nd rfl (Or.inl rfl) (pe_f (c_led T L) hr (pa_cons (pe_f (c_mirrored T) hr (pa_cons (pv 0) (pa_cons (pe_ix ix_tup (pv 0) pe_int (fun _ _ => rfl)) pa_nil))) (pa_cons (pv 1) (pa_cons (pv 2) (pa_cons pe_bl pa_nil))))))
      (pss_cons (ps_set (i := 9) nd rfl (Or.inl rfl) (pe_f (c_led T L) hr (pa_cons (pe_f (c_exchanged T) hr (pa_cons (pv 0) (pa_cons (pe_ix ix_tup (pv 0) pe_int (fun _ _ => rfl)) pa_nil))) (pa_cons (pv 1) (pa_cons (pv 2) (pa_cons pe_bl pa_nil))))))
      (pss_cons (ps_set (i := 10) nd rfl (Or.inl rfl) (pe_f (c_led T L) hr (pa_cons (pe_op op_catA (pe_slice sl_tup (pv 0) po_none (po_some pe_int)) (pe_tup (pa_cons (pe_revT (pe_ix ix_tup (pv 0) pe_int (fun _ _ => rfl))) pa_nil))) (pa_cons (pv 1) (pa_cons (pv 5) (pa_cons pe_bl pa_nil))))))
      (pss_cons (ps_if (PW.pt (pw_or (pt_cmp (pc_isN (pv 8))) (pw_or (pt_cmp (pc_isN (pv 9))) (pw_or (pt_cmp (pc_isN (pv 10))) (pw_or1 (pt_cmpR (op_neD hu) (pe_mm0 (c_stands T) T.cl hr (pv 10)) (pv 3) (nomark _))))))) (pss_one (ps_ret pe_bl)) pss_nil)
      (pss_cons (ps_if (pt_cmpR (op_neD hu) (pe_callB (cr_sortedS hu2) (by rfl) T.b_sorted (by decide +kernel) (pa_cons
          (pe_lc (own := [("_law_x", 14), ("_law_y", 15), ("_law_off", 16)]) (g := gTup K 3 (gCons (gName 14) (gCons (gName 15) (gCons (gName 16) gNil)))) (tt := tYes) (te := tTup (tCons (tOp rMi (tOp rMi (tOp (rIxT K) (tVar 0) (tC (.int 0))) (tC (.int 1))) (tVar 14)) (tCons (tVar 15) (tCons (tVar 16) tNil)))) rfl nd (pi_tup (pv 3))
            (blkOk_by (N := NOth) (sc := defScope s__law_others_right) (by decide +kernel)) (fun _ _ _ _ _ => pg_tup rfl (pgs_cons (pg_name (i := 14) nd rfl (Or.inl rfl)) (pgs_cons (pg_name (i := 15) nd rfl (Or.inl rfl)) (pgs_cons (pg_name (i := 16) nd rfl (Or.inl rfl)) pgs_nil)))) (fun _ _ _ _ _ => pts_nil)
            (fun _ _ _ _ _ => pe_tup (pa_cons (pe_op op_sub (pe_op op_sub (pe_ix ix_tup (pv 0) pe_int (fun _ _ => rfl)) pe_int) (pv 14)) (pa_cons (pv 15) (pa_cons (pv 16) pa_nil))))) pa_nil))
          (pe_callTy call_list_of (by rfl) T.b_list (by decide +kernel) (pa_cons (pe_mm0 (c_stands T) T.cl hr (pv 8)) pa_nil)) (nomark _)) (pss_one (ps_ret pe_bl)) pss_nil)
      (pss_one (ps_ret (pe_cmpR (op_eqD hu) (pe_callB (cr_sortedS hu2) (by rfl) T.b_sorted (by decide +kernel) (pa_cons
          (pe_lc (own := [("_law_x", 14), ("_law_y", 15), ("_law_off", 16)]) (g := gTup K 3 (gCons (gName 14) (gCons (gName 15) (gCons (gName 16) gNil)))) (tt := tYes) (te := tTup (tCons (tVar 15) (tCons (tVar 14) (tCons (tVar 16) tNil)))) rfl nd (pi_tup (pv 3))
            (blkOk_by (N := NOth) (sc := defScope s__law_others_right) (by decide +kernel)) (fun _ _ _ _ _ => pg_tup rfl (pgs_cons (pg_name (i := 14) nd rfl (Or.inl rfl)) (pgs_cons (pg_name (i := 15) nd rfl (Or.inl rfl)) (pgs_cons (pg_name (i := 16) nd rfl (Or.inl rfl)) pgs_nil)))) (fun _ _ _ _ _ => pts_nil)
            (fun _ _ _ _ _ => pe_tup (pa_cons (pv 15) (pa_cons (pv 14) (pa_cons (pv 16) pa_nil))))) pa_nil))
          (pe_callTy call_list_of (by rfl) T.b_list (by decide +kernel) (pa_cons (pe_mm0 (c_stands T) T.cl hr (pv 9)) pa_nil)) (nomark _)))))))))), ?_⟩
    obtain ⟨a, b, hs, rfl, ha, hb, hp⟩ := id hn.n
    have hlen := hp.length
    have z2 : (2 : Nat) ≤ sizeLine := by decide
    have z3 : (3 : Nat) ≤ sizeLine := by decide
    have l0 := nok.ok.l0
    have l1 := nok.ok.l1
    obtain ⟨vs, lD, pD⟩ := id hD
    have dlen := pD.length
    refine ⟨_, rfl, a, _, _, _, rfl, rfl, ha, at4, b, hs, rfl, .inr hb, ?_⟩
    rw [hlen]
    refine ⟨_, _, rfl, rfl, Nat.zero_le _, fun F hF => ⟨z2, fun u nu => ⟨u, _, rfl, .of upd_same, rfl, _, _, rfl, _, _, rfl, rfl, ?_⟩⟩⟩
    have x0 : Ex true [] H (upd (upd H F (.lst [])) u (.tup [.int ((n.houses.length : Nat) - 1), .ref F])) := (Ex.one hF).new nu
    have nFu : F ≠ u := ne_of_none upd_same nu
    have nwF : Nw true H F := .of hF
    refine ⟨_, rfl, D, rfl, ⟨_, .of (x0.lst lD (by simp))⟩, for_it (walk_list (K := K) (a := D) (xs := vs)) (fun i σ H' => ∃ (z6 z7 : Option V) (vs' : List V), σ = [some (.ref a), some rv, some (.ref D), some sv, some (.int ((n.houses.length : Nat) - 1)), some (.ref F), z6, z7, none, none, none, none, none, none, none, none, none] ∧ Ex true [] H H' ∧ H' F = some (.lst vs') ∧ Paired (DeedV K [F] H') vs' ((symRev n).deeds (ds.take i)))
      ⟨none, none, [], rfl, x0, by rw [upd_ne nFu]; exact upd_same, .nil⟩ (fun i σ H' _ ⟨_, _, _, _, e, _⟩ => .of (e.lst lD (by simp))) ?_ ?_⟩
    · rintro i x σ H2 H1 hi ⟨z6, z7, vs', rfl, e1, lF, pF⟩ ⟨rfl, hx⟩
      obtain ⟨d, hd, bb, l, gs, rfl, sb, lg, _, pg⟩ := pD.at_ hx
      have few := (dok.deed i d hd).few
      have glen := pg.length
      refine ⟨bb, _, rfl, e1.sqT sb, rfl, _, _, rfl, _, _, rfl, rfl, ?_⟩
      refine ⟨_, rfl, .inl ⟨rfl, _, SqL.of lF⟩, _, rfl, _, rfl, l, rfl, ⟨_, .of (e1.lst lg (by simp))⟩, fun G hG => ?_⟩
      have nFG : F ≠ G := ne_of_none lF hG
      refine lc_it (walk_list (K := K) (a := l) (xs := gs)) (fun j H' => Ex true [] H1 H' ∧ ∃ ys, H' G = some (.lst ys) ∧ Paired (fun v g => Dp K H' v (encS g)) ys ((d.2.take j).map (revG n))) ⟨.one hG, [], upd_same, .nil⟩ (fun j H' _ ⟨e, _⟩ => .of (e.lst (e1.lst lg (by simp)) (by simp))) ?_ ?_
      · rintro j y H4 H3 hj ⟨e3, ys, l3, p3⟩ ⟨rfl, hy⟩
        obtain ⟨g, hg, dg⟩ := pg.at_ hy
        obtain ⟨sa, rfl, hsa⟩ := dg.s
        refine ⟨sa, _, rfl, e3.sqT (e1.sqT hsa), rfl, _, _, rfl, _, _, rfl, _, _, rfl, rfl, rfl, ?_⟩
        refine ⟨_, rfl, _, rfl, _, _, rfl, rfl, _, rfl, _, rfl, z3, fun t nt => ?_⟩
        have o1 : Ex true [] H3 (upd H3 t (.tup [.int ((n.houses.length : Nat) - 1 - g.1), .int g.2.1, .int g.2.2])) := .one nt
        have lG := o1.lst l3 (by simp)
        have o2 : Ex true [G] (upd H3 t (.tup [.int ((n.houses.length : Nat) - 1 - g.1), .int g.2.1, .int g.2.2])) (upd (upd H3 t (.tup [.int ((n.houses.length : Nat) - 1 - g.1), .int g.2.1, .int g.2.2])) G (.lst (ys ++ [.ref t]))) := Ex.app .refl (.inl (by simp)) lG
        refine ⟨ys, lG, ?_, (e3.trans o1).app (.inr (.of hG)) lG, ys ++ [.ref t], upd_same, ?_⟩
        · rw [p3.length, List.length_map, List.length_take, sizeLine_eq]
          omega
        · rw [take_map (revG n) hg]
          exact (o2.pr tt_S (o1.pr tt_S p3)).app (.cons (o2.stand (Dp.ofS (s := revG n g) (.of upd_same))) .nil)
      · rintro H3 ⟨e3, ys, l3, p3⟩
        rw [glen, List.take_length] at p3
        refine ⟨z2, fun q1 nq1 => ?_⟩
        have o1 : Ex true [] H3 (upd H3 q1 (.tup [.int d.1, .ref G])) := .one nq1
        have lF1 := (e3.trans o1).lst lF (by simp)
        have lG1 := o1.lst l3 (by simp)
        have o2 : Ex true [F] (upd H3 q1 (.tup [.int d.1, .ref G])) (upd (upd H3 q1 (.tup [.int d.1, .ref G])) F (.lst (vs' ++ [.ref q1]))) := Ex.app .refl (.inl (by simp)) lF1
        refine ⟨F, vs', _, rfl, rfl, lF1, ?_, _, _, vs' ++ [.ref q1], rfl, (e1.trans (e3.trans o1)).app (.inr nwF) lF1, upd_same, ?_⟩
        · rw [pF.length, sizeLine_eq]
          unfold Sym.deeds
          rw [List.length_map, List.length_take]
          omega
        · unfold Sym.deeds
          rw [take_map _ hd]
          refine (L2.Paired.mapP pF fun v d h => (h.keep (e3.trans o1) (fun b hb => by cases hb)).keep o2 (fun b hb => hb)).app (.cons ⟨q1, G, ys, rfl, o2.sqT (.of upd_same), o2.lst lG1 (by simpa using Ne.symm nFG), by simpa using Ne.symm nFG, o2.pr tt_S (o1.pr tt_S p3)⟩ .nil)
    · rintro σ H1 ⟨z6, z7, vs', rfl, e1, lF, pF⟩
      rw [dlen, List.take_length] at pF
      have w1 : Ex false [] H H1 := e1.weak
      have tabs1 := Tabs.keep0 tabs e1
      have dF : DeedsAt K H1 F ((symRev n).deeds ds) := ⟨vs', lF, L2.Paired.mapP pF fun v d h => h.any⟩
      have dhs : Dp K H (.ref b) (.tuple (n.houses.map encH)) := .ofSeq hb hp
      -- mirrored
      refine ⟨_, rfl, _, rfl, a, _, _, _, rfl, rfl, e1.sqT ha, at4, .ref a, .ref b, n, rfl, e1.net hn, e1.dp (tt_map tt_H n.houses) dhs, nok.ok, fun H2 r2 x2 d2 => ?_⟩
      have em : (symMir n).deeds ds = ds := deeds_id ds
      have dm := (symMir n).deedsOk dok
      rw [em] at dm
      refine ⟨_, rfl, _, rfl, r2, rv, D, true, mirN n, r, _, ds, rfl, d2, x2.rule (e1.rule hrv), netOk_mir nok, rok, (hD.keep w1).keep x2, dm, dl, Tabs.keep0 tabs1 x2, fun H3 a3 p3 m3 e3 t3 f3 na3 np3 => ?_⟩
      have w3 := (w1.trans x2.weak).trans e3
      -- exchanged
      refine ⟨_, rfl, _, rfl, a, _, _, _, rfl, rfl, w3.sqT ha, at4, .ref a, .ref b, n, rfl, w3.net hn, w3.dp (tt_map tt_H n.houses) dhs, nok.ok, fun H4 r4 x4 d4 => ?_⟩
      have ee : (symExc n).deeds ds = ds := deeds_id ds
      have de := (symExc n).deedsOk dok
      rw [ee] at de
      refine ⟨_, rfl, _, rfl, r4, rv, D, true, excN n, r, _, ds, rfl, d4, x4.rule (w3.rule hrv), netOk_exc nok, rok, (hD.keep w3).keep x4, de, dl, Tabs.keep0 t3 x4, fun H5 a5 p5 m5 e5 t5 f5 na5 np5 => ?_⟩
      have w5 := (w3.trans x4.weak).trans e5
      have f3' := (f3.keep x4).keep e5
      have dF5 := (((dF.keep x2).keep e3).keep x4).keep e5
      -- houses in another order
      refine ⟨_, rfl, 4, rfl, a, _, rfl, w5.sqT ha, (fun z => absurd (show (4 : Nat) = 5 from z.2) (by decide)), fun q1 nq1 => ?_⟩
      have o1 : Ex true [] H5 (upd H5 q1 (.tup [.int n.wide, .int n.high, .int n.clocks, .int n.slip])) := .one nq1
      refine ⟨_, rfl, a, _, _, _, rfl, rfl, o1.sqT (w5.sqT ha), at4, b, hs, rfl, o1.sqT (w5.sqT hb), fun q2 nq2 => ⟨(by show 1 ≤ sizeLine; decide), fun q3 nq3 => ?_⟩⟩
      have o2 := o1.new (o := .tup hs.reverse) nq2
      have o3 := o2.new (o := .tup [.ref q2]) nq3
      have o12 : Ex true [] (upd H5 q1 (.tup [.int n.wide, .int n.high, .int n.clocks, .int n.slip])) (upd (upd (upd H5 q1 (.tup [.int n.wide, .int n.high, .int n.clocks, .int n.slip])) q2 (.tup hs.reverse)) q3 (.tup [.ref q2])) := (Ex.one nq2).new nq3
      have o23 : Ex true [] (upd (upd H5 q1 (.tup [.int n.wide, .int n.high, .int n.clocks, .int n.slip])) q2 (.tup hs.reverse)) (upd (upd (upd H5 q1 (.tup [.int n.wide, .int n.high, .int n.clocks, .int n.slip])) q2 (.tup hs.reverse)) q3 (.tup [.ref q2])) := .one nq3
      refine ⟨q1, q3, [.int n.wide, .int n.high, .int n.clocks, .int n.slip], [.ref q2], rfl, rfl, o12.sqT (.of upd_same), .of upd_same, (by show (5 : Nat) ≤ sizeLine; decide), fun z => (by cases z), fun _ z => (by cases z), fun _ _ q4 nq4 => ?_⟩
      have o4 := o3.new (o := .tup [.int n.wide, .int n.high, .int n.clocks, .int n.slip, .ref q2]) nq4
      have o24 := o23.new (o := .tup [.int n.wide, .int n.high, .int n.clocks, .int n.slip, .ref q2]) nq4
      have w6 := w5.trans o4.weak
      have dv : Dp K (upd (upd (upd (upd H5 q1 (.tup [.int n.wide, .int n.high, .int n.clocks, .int n.slip])) q2 (.tup hs.reverse)) q3 (.tup [.ref q2])) q4 (.tup [.int n.wide, .int n.high, .int n.clocks, .int n.slip, .ref q2])) (.ref q4) (encN (revN n)) :=
        Dp.ofN (n := revN n) (.of upd_same) (o24.sqT (.of upd_same)) (w6.pr tt_H hp).rev
      refine ⟨_, rfl, _, rfl, .ref q4, rv, F, true, revN n, r, _, (symRev n).deeds ds, rfl, dv, w6.rule hrv, netOk_rev nok, rok, dF5.keep o4, (symRev n).deedsOk dok, ?_, Tabs.keep0 t5 o4, fun H7 a7 p7 m7 e7 t7 f7 na7 np7 => ?_⟩
      · unfold Sym.deeds
        rw [List.length_map]
        exact dl
      have w7 := w6.trans e7
      have f3'' := (f3'.keep o4).keep e7
      have f5'' := (f5.keep o4).keep e7
      have er : runS (revN n) r ((symRev n).deeds ds) = runS n r ds := (Canon.run (netOk_rev nok) r _).ss.ext (Canon.run nok.ok r ds).ss fun x => (symRev n).run nok.ok (netOk_rev nok) r dok.signsOk x
      rw [er] at f7
      obtain ⟨S, eS⟩ : ∃ S, S = runS n r ds := ⟨_, rfl⟩
      have dsv := w7.stands hsv
      rw [← eS] at f7 dsv
      refine ⟨_, rfl, false, by simp, iteF ⟨_, rfl, false, by simp, iteF ⟨_, rfl, false, by simp, iteF ?_⟩⟩⟩
      obtain ⟨dx7, nv7, rv7, b7, sv7, lv7, ps7, g7, i7, _⟩ := id f7.ex
      refine ⟨_, rfl, a7, dx7, _, rfl, i7, rfl, a7, p7, revN n, r, _, _, m7, rfl, f7, fun v dvv => ⟨_, rfl, encT S, encT S, dvv, dsv, tt_shaped (by decide) (tt_T S), tt_shaped (by decide) (tt_T S), ?_⟩⟩
      rw [eqv_tt (tt_T S)]
      refine ⟨false, rfl, iteF ?_⟩
      obtain ⟨ta, sxs, rfl, hta, pta⟩ := dsv.seq
      have slen := pta.length
      have smost : S.length ≤ 125 := by rw [eS]; exact (Canon.run nok.ok r ds).most nok.ok
      -- the mirrored stands
      refine ⟨_, rfl, ta, rfl, ⟨_, hta⟩, fun G hG => ?_⟩
      refine lc_it (walk_tup (K := K) (a := ta) (xs := sxs)) (fun j H' => Ex true [] H7 H' ∧ ∃ ys, H' G = some (.lst ys) ∧ Paired (fun v g => Dp K H' v (encS g)) ys ((S.take j).map (mirS n))) ⟨.one hG, [], upd_same, .nil⟩ (fun j H' _ ⟨e, _⟩ => e.sqT hta) ?_ ?_
      · rintro j y H9 H8 hj ⟨e8, ys, l8, p8⟩ ⟨rfl, hy⟩
        obtain ⟨s1, hs1, ds1⟩ := pta.at_ hy
        obtain ⟨sa, rfl, hsa⟩ := ds1.s
        refine ⟨sa, _, rfl, e8.sqT hsa, rfl, _, _, rfl, _, _, rfl, _, _, rfl, rfl, rfl, ?_⟩
        refine ⟨_, rfl, a, _, _, _, rfl, rfl, e8.sqT (w7.sqT ha), at0, _, _, rfl, rfl, _, rfl, _, _, rfl, rfl, _, rfl, _, rfl, z3, fun t nt => ?_⟩
        have o1 : Ex true [] H8 (upd H8 t (.tup [.int (mirS n s1).1, .int (mirS n s1).2.1, .int (mirS n s1).2.2])) := .one nt
        have lG := o1.lst l8 (by simp)
        have o2 : Ex true [G] (upd H8 t (.tup [.int (mirS n s1).1, .int (mirS n s1).2.1, .int (mirS n s1).2.2])) (upd (upd H8 t (.tup [.int (mirS n s1).1, .int (mirS n s1).2.1, .int (mirS n s1).2.2])) G (.lst (ys ++ [.ref t]))) := Ex.app .refl (.inl (by simp)) lG
        refine ⟨ys, lG, ?_, (e8.trans o1).app (.inr (.of hG)) lG, ys ++ [.ref t], upd_same, ?_⟩
        · rw [p8.length, List.length_map, List.length_take, sizeLine_eq]
          omega
        · rw [take_map (mirS n) hs1]
          exact (o2.pr tt_S (o1.pr tt_S p8)).app (.cons (o2.stand (Dp.ofS (s := mirS n s1) (.of upd_same))) .nil)
      · rintro H8 ⟨e8, ys, l8, p8⟩
        rw [slen, List.take_length] at p8
        refine ⟨G, ys, S.map (mirS n), rfl, .of l8, p8, by rw [eS]; exact sym_nodup (symMir n) nok.ok r ds, fun S2 xs2 q8 ss2 mm2 pr2 nq8 => ?_⟩
        have y8 := e8.new (o := .lst xs2) nq8
        have f9 := f3''.keep y8
        have eS2 : S2 = runS (mirN n) r ds := by
          have := sym_sorted (symMir n) nok.ok (netOk_mir nok) dok ss2 (by rw [← eS]; exact mm2)
          rw [em] at this
          exact this
        obtain ⟨dx9, nv9, rv9, b9, sv9, lv9, ps9, g9, i9, _⟩ := id f9.ex
        refine ⟨_, rfl, a3, dx9, _, rfl, i9, rfl, a3, p3, mirN n, r, _, _, m3, rfl, f9, fun v dvv => ?_⟩
        rw [← eS2] at dvv
        obtain ⟨tb, txs, rfl, htb, ptb⟩ := dvv.seq
        refine ⟨tb, txs, rfl, .inr htb, fun l2 nl2 => ?_⟩
        have y9 := y8.new (o := .lst txs) nl2
        have o9 : Ex true [] (upd H8 q8 (.lst xs2)) (upd (upd H8 q8 (.lst xs2)) l2 (.lst txs)) := .one nl2
        have o89 : Ex true [] H8 (upd (upd H8 q8 (.lst xs2)) l2 (.lst txs)) := (Ex.one nq8).new nl2
        obtain ⟨g1, g2, g3, g4⟩ := list_same (K := K) (H := upd (upd H8 q8 (.lst xs2)) l2 (.lst txs)) (S := S2) (o9.lst upd_same (by simp)) upd_same (o89.pr tt_S pr2) (o9.pr tt_S ptb)
        refine ⟨_, _, g1, g2, g3, g3, ?_⟩
        rw [g4]
        refine ⟨false, rfl, iteF ?_⟩
        -- the exchanged stands
        have w9 := w7.trans y9.weak
        have f5n := f5''.keep y9
        refine ⟨_, rfl, ta, rfl, ⟨_, y9.sqT hta⟩, fun G2 hG2 => ?_⟩
        refine lc_it (walk_tup (K := K) (a := ta) (xs := sxs)) (fun j H' => Ex true [] (upd (upd H8 q8 (.lst xs2)) l2 (.lst txs)) H' ∧ ∃ ys, H' G2 = some (.lst ys) ∧ Paired (fun v g => Dp K H' v (encS g)) ys ((S.take j).map excS)) ⟨.one hG2, [], upd_same, .nil⟩ (fun j H' _ ⟨e, _⟩ => e.sqT (y9.sqT hta)) ?_ ?_
        · rintro j y Hb Ha hj ⟨ea, ys', la, pa⟩ ⟨rfl, hy⟩
          obtain ⟨s1, hs1, ds1⟩ := pta.at_ hy
          obtain ⟨sa, rfl, hsa⟩ := ds1.s
          refine ⟨sa, _, rfl, ea.sqT (y9.sqT hsa), rfl, _, _, rfl, _, _, rfl, _, _, rfl, rfl, rfl, ?_⟩
          refine ⟨_, rfl, _, rfl, _, rfl, z3, fun t nt => ?_⟩
          have o1 : Ex true [] Ha (upd Ha t (.tup [.int (excS s1).1, .int (excS s1).2.1, .int (excS s1).2.2])) := .one nt
          have lG := o1.lst la (by simp)
          have o2 : Ex true [G2] (upd Ha t (.tup [.int (excS s1).1, .int (excS s1).2.1, .int (excS s1).2.2])) (upd (upd Ha t (.tup [.int (excS s1).1, .int (excS s1).2.1, .int (excS s1).2.2])) G2 (.lst (ys' ++ [.ref t]))) := Ex.app .refl (.inl (by simp)) lG
          refine ⟨ys', lG, ?_, (ea.trans o1).app (.inr (.of hG2)) lG, ys' ++ [.ref t], upd_same, ?_⟩
          · rw [pa.length, List.length_map, List.length_take, sizeLine_eq]
            omega
          · rw [take_map excS hs1]
            exact (o2.pr tt_S (o1.pr tt_S pa)).app (.cons (o2.stand (Dp.ofS (s := excS s1) (.of upd_same))) .nil)
        · rintro Ha ⟨ea, ys', la, pa⟩
          rw [slen, List.take_length] at pa
          refine ⟨G2, ys', S.map excS, rfl, .of la, pa, by rw [eS]; exact sym_nodup (symExc n) nok.ok r ds, fun S3 xs3 qa ss3 mm3 pr3 nqa => ?_⟩
          have ya := ea.new (o := .lst xs3) nqa
          have fa := f5n.keep ya
          have eS3 : S3 = runS (excN n) r ds := by
            have := sym_sorted (symExc n) nok.ok (netOk_exc nok) dok ss3 (by rw [← eS]; exact mm3)
            rw [ee] at this
            exact this
          obtain ⟨dxa, nva, rva, ba, sva, lva, psa, ga, ia, _⟩ := id fa.ex
          refine ⟨_, rfl, a5, dxa, _, rfl, ia, rfl, a5, p5, excN n, r, _, _, m5, rfl, fa, fun v dvv => ?_⟩
          rw [← eS3] at dvv
          obtain ⟨tb2, txs2, rfl, htb2, ptb2⟩ := dvv.seq
          refine ⟨tb2, txs2, rfl, .inr htb2, fun l3 nl3 => ?_⟩
          have yb := ya.new (o := .lst txs2) nl3
          have ob : Ex true [] (upd Ha qa (.lst xs3)) (upd (upd Ha qa (.lst xs3)) l3 (.lst txs2)) := .one nl3
          have oab : Ex true [] Ha (upd (upd Ha qa (.lst xs3)) l3 (.lst txs2)) := (Ex.one nqa).new nl3
          obtain ⟨k1, k2, k3, k4⟩ := list_same (K := K) (H := upd (upd Ha qa (.lst xs3)) l3 (.lst txs2)) (S := S3) (ob.lst upd_same (by simp)) upd_same (oab.pr tt_S pr3) (ob.pr tt_S ptb2)
          refine ⟨_, _, k1, k2, k3, k3, ?_⟩
          rw [k4]
          exact k _ (w9.trans yb.weak) (Tabs.keep0 (Tabs.keep0 t7 y9) yb)
end Fb
namespace Fb
open PySem PySem.Spec PyProof.Rows L2
variable {P : Program} {w : World} {K : PySem.W.Frag} {mg : Str → Option Value} {base : Heap} {C : Addr}
/-! ### the law -/
def spLaw (K : PySem.W.Frag) (q : Addr) : Sp := fun vs H Q _ => ∃ (a : Addr) (ns : List Int), vs = [.ref a] ∧ SqL K H a (ns.map V.int) ∧ ns.length ≤ 63 ∧ LamX.Tabs [(q, lamQ)] H ∧ ∀ H', Q (.bl true) H'
abbrev NLaw : List Str := ["_law_script", "_law_k", "_law_pen_here", "_law_lap", "_law_net_here", "_law_rule_here", "_law_deeds_here", "_law_one", "_law_other", "_law_ticks", "_law_signs"]
theorem sc_law : FnScope NLaw ["_law_script"] (defScope s_law) := ⟨rfl, rfl, rfl, by decide +kernel, rfl, by decide +kernel, by decide +kernel⟩
theorem FAt.at_ {H : Hp} {a p : Addr} {n r t S m} (h : FAt K C H a p n r t S m) : ∃ dx fs, H a = some (.ins C dx fs) := by
  obtain ⟨dx, nv, rv, b, sv, lv, ps, g, h1, _⟩ := h.ex
  exact ⟨dx, _, h1⟩
theorem tabs_pen {H H' : Hp} {p q : Addr} (t : LamX.Tabs [(q, lamQ)] H) (x : Ex true [p] H H') (h : PenAt H p) : LamX.Tabs [(q, lamQ)] H' := by
  obtain ⟨a, b, c, e, _⟩ := h
  refine Tabs.keepX t x (fun d hd ps e' => ?_) (fun d hd c' q' e' => ?_)
  · rw [List.mem_singleton.mp hd, e] at e'
    cases e'
  · rw [List.mem_singleton.mp hd, e] at e'
    cases e'
theorem law_few {x : Int} (hx : 0 ≤ x) : 1 ≤ (if (if (2 : Int) < x then 2 else x) > 1 then (if (2 : Int) < x then 2 else x) else 1) ∧ (if (if (2 : Int) < x then 2 else x) > 1 then (if (2 : Int) < x then 2 else x) else 1) ≤ 2 := by
  split <;> split <;> omega
theorem Ex.pen {H H1 H2 : Hp} {p : Addr} (x : Ex false [] H H1) (y : Ex true [p] H1 H2) (hp : Nw false H p) : Ex false [] H H2 := ((x.nil (ps := [p])).trans y.weak).drop hp
theorem ok_law (T : Txt K mg C) {c q : Addr} (L : LedT K mg base c q) {f : Addr} {fd : FuncData} (F : Fun K "law" "law" s_law f fd) : FnOk P w K mg base CX0 12 f fd ["_law_script"] (spLaw K q) := by
  refine F.ok sc_law (fun vs H Q E h => ?_) (fun cdv A outer s H vs Q E hr h => ?_)
  · obtain ⟨a, ns, rfl, _⟩ := h
    rfl
  · obtain ⟨a, ns, rfl, ha, hlen, tabs, k⟩ := h
    have nd := sc_law.nd
    have hu := hr.units
    obtain ⟨fe, fde, pse, Fe, hme, be⟩ := (c_eq (P := P) (w := w) (base := base) T).ex
    refine ⟨_, pss_cons (ps_for PassesOwn.never rfl (pi_range1 (by rfl) T.b_range (pa_cons (pe_callB (call_max2 rfl) (by rfl) T.b_max (by decide +kernel) (pa_cons pe_int (pa_cons (pe_callB (call_min2 rfl) (by rfl) T.b_min (by decide +kernel) (pa_cons (pe_callB call_len_seq (by rfl) T.b_len PySem.boot_len (pa_cons (pv 0) pa_nil)) (pa_cons pe_int pa_nil))) pa_nil))) pa_nil)) (pg_name (i := 1) nd rfl (Or.inl rfl))
        (pss_cons (ps_set (i := 2) nd rfl (Or.inl rfl) (pe_f (c_pen T) hr (pa_cons (pe_f (c_cellAt T) hr (pa_cons (pv 0) (pa_cons (pv 1) pa_nil))) pa_nil)))
        (pss_one (ps_for PassesOwn.never rfl (pi_range1 (by rfl) T.b_range (pa_cons pe_int pa_nil)) (pg_name (i := 3) nd rfl (Or.inl rfl))
          (pss_cons (ps_par (i := 4) (j := 5) rfl nd rfl rfl (by decide) rfl rfl (pa_cons (pe_f (c_lnet T) hr (pa_cons (pv 2) (pa_cons pe_int pa_nil))) (pa_cons (pe_f (c_lrule T) hr (pa_cons (pv 2) pa_nil)) pa_nil)) (by rfl))
          (pss_cons (ps_set (i := 6) nd rfl (Or.inl rfl) (pe_f (c_deeds T) hr (pa_cons (pv 2) (pa_cons (pv 4) (pa_cons (pv 5) pa_nil)))))
          (pss_cons (ps_par (i := 7) (j := 8) rfl nd rfl rfl (by decide) rfl rfl (pa_cons (pe_f (c_led T L) hr (pa_cons (pv 4) (pa_cons (pv 5) (pa_cons (pv 6) (pa_cons pe_bl pa_nil))))) (pa_cons (pe_f (c_led T L) hr (pa_cons (pv 4) (pa_cons (pv 5) (pa_cons (pv 6) (pa_cons pe_bl pa_nil))))) pa_nil)) (by rfl))
          (pss_cons (ps_if (PW.pt (pw_or (pt_cmp (pc_isN (pv 7))) (pw_or (pt_cmp (pc_isN (pv 8))) (pw_or1 (pt_cmpR (op_neOwn Fe hme.at_ hme.fn T.kne T.kmro be pass0 (hr.mono (by decide))) (pv 7) (pv 8) (nomark _)))))) (pss_one (ps_ret pe_bl)) pss_nil)
          (pss_cons (ps_if (pt_cmpR op_ne (pe_mm0 (c_tick T) T.cl hr (pv 7)) (pe_callB (cr_sum rfl) (by rfl) T.b_sum (by decide +kernel) (pa_cons
              (pe_lc (own := [("_law_ticks", 9), ("_law_signs", 10)]) (g := gTup K 2 (gCons (gName 9) (gCons (gName 10) gNil))) (tt := tYes) (te := tVar 9) rfl nd (pi_list (pv 6))
                (blkOk_by (N := NLaw) (sc := defScope s_law) (by decide +kernel)) (fun _ _ _ _ _ => pg_tup rfl (pgs_cons (pg_name (i := 9) nd rfl (Or.inl rfl)) (pgs_cons (pg_name (i := 10) nd rfl (Or.inl rfl)) pgs_nil))) (fun _ _ _ _ _ => pts_nil) (fun _ _ _ _ _ => pv 9)) pa_nil)) (nomark _)) (pss_one (ps_ret pe_bl)) pss_nil)
          (pss_one (ps_if (pt_not (pt_val (pe_f (c_others T L) hr (pa_cons (pv 4) (pa_cons (pv 5) (pa_cons (pv 6) (pa_cons (pe_mm0 (c_stands T) T.cl hr (pv 7)) pa_nil))))))) (pss_one (ps_ret pe_bl)) pss_nil)))))))))))
      (pss_one (ps_ret pe_bl)), ?_⟩
    have few := law_few (x := ((ns.map V.int).length : Int)) (by omega)
    refine ⟨_, rfl, a, _, rfl, .inl ha, _, _, rfl, _, _, rfl, _, rfl, Int.le_trans (by decide) few.1, Int.lt_of_le_of_lt few.2 (by decide), ?_⟩
    refine for_it walk_range (fun i σ H' => ∃ (z1 z2 z3 z4 z5 z6 z7 z8 z9 z10 : Option V), σ = [some (.ref a), z1, z2, z3, z4, z5, z6, z7, z8, z9, z10] ∧ Ex false [] H H' ∧ LamX.Tabs [(q, lamQ)] H')
      ⟨none, none, none, none, none, none, none, none, none, none, rfl, .refl, tabs⟩ (fun _ _ _ _ _ => True.intro) ?_ ?_
    · rintro i x σ H1' H1 hi ⟨z1, z2, z3, z4, z5, z6, z7, z8, z9, z10, rfl, e1, t1⟩ ⟨rfl, rfl⟩
      refine ⟨_, rfl, _, rfl, a, ns, i, by simp, e1.sqF ha (by simp), fun cc => ⟨cc, rfl, fun H2 p x2 np pp => ?_⟩⟩
      have e2 := e1.trans x2.weak
      have t2 := Tabs.keep0 t1 x2
      have nwp : Nw false H p := e1.nws np.weak
      refine ⟨_, rfl, by decide, by decide, ?_⟩
      refine for_it walk_range (fun j σ H' => ∃ (z1 z3 z4 z5 z6 z7 z8 z9 z10 : Option V), σ = [some (.ref a), z1, some (.ref p), z3, z4, z5, z6, z7, z8, z9, z10] ∧ Ex false [] H H' ∧ LamX.Tabs [(q, lamQ)] H' ∧ PenAt H' p)
        ⟨_, z3, z4, z5, z6, z7, z8, z9, z10, rfl, e2, t2, pp⟩ (fun _ _ _ _ _ => True.intro) ?_ ?_
      · rintro j y σ H3' H3 hj ⟨z1, z3, z4, z5, z6, z7, z8, z9, z10, rfl, e3, t3, p3⟩ ⟨rfl, rfl⟩
        refine ⟨_, rfl, p, rfl, p3, fun H4 nv n x4 p4 dn nok => ⟨_, rfl, p, rfl, p4, fun H5 rv r x5 p5 drv rok => ⟨_, _, rfl, ?_⟩⟩⟩
        have e5 := Ex.pen (Ex.pen e3 x4 nwp) x5 nwp
        have t5 := tabs_pen (tabs_pen t3 x4 p3) x5 p4
        refine ⟨_, rfl, _, rfl, _, rfl, p, nv, rv, n, r, rfl, p5, x5.net dn, drv, nok, rok, fun H6 D pth ds x6 p6 nD dD dok dl => ?_⟩
        have e6 := Ex.pen e5 x6 nwp
        have t6 := tabs_pen t5 x6 p5
        have dn6 := x6.net (x5.net dn)
        have drv6 := x6.rule drv
        refine ⟨_, rfl, _, rfl, _, rfl, nv, rv, D, true, n, r, pth, ds, rfl, dn6, drv6, nok.ok, rok, dD, dok, dl, t6, fun H7 a1 p1 m1 e7 t7 f7 na1 np1 => ?_⟩
        refine ⟨_, rfl, _, rfl, _, rfl, nv, rv, D, false, n, r, pth, ds, rfl, e7.net dn6, e7.rule drv6, nok.ok, rok, dD.keep e7, dok, dl, t7, fun H8 a2 p2 m2 e8 t8 f8 na2 np2 => ⟨_, _, rfl, ?_⟩⟩
        have f78 := f7.keep e8
        obtain ⟨dx1, fs1, i1⟩ := f78.at_
        obtain ⟨dx2, fs2, i2⟩ := f8.at_
        refine ⟨_, rfl, false, by simp, iteF ⟨_, rfl, false, by simp, iteF ?_⟩⟩
        refine ⟨_, rfl, _, rfl, a1, a2, dx1, dx2, fs1, fs2, rfl, rfl, i1, i2, ⟨p1, p2, n, r, _, _, m1, m2, f78, f8⟩, fun H9 x9 => ⟨false, rfl, iteF ?_⟩⟩
        have y9 : Ex true [] H8 H9 := ⟨fun b o _ _ e => x9 b o e, fun b o _ e => x9 b o e⟩
        have f9 := f78.keep y9
        have d9 := ((dD.keep e7).keep e8).keep y9
        obtain ⟨vs, lD, pD⟩ := id d9
        have dlen := pD.length
        obtain ⟨dx9, nv9, rv9, b9, sv9, lv9, ps9, g9, i9, _⟩ := id f9.ex
        refine ⟨_, rfl, a1, dx9, _, rfl, i9, rfl, a1, p1, n, r, _, _, m1, rfl, f9, _, rfl, D, rfl, ⟨_, .of lD⟩, fun G hG => ?_⟩
        refine lc_it (walk_list (K := K) (a := D) (xs := vs)) (fun l H' => Ex true [] H9 H' ∧ H' G = some (.lst (((ds.take l).map (·.1)).map V.int))) ⟨.one hG, upd_same⟩ (fun l H' _ ⟨e, _⟩ => .of (e.lst lD (by simp))) ?_ ?_
        · rintro l u Hb Ha hl ⟨ea, la⟩ ⟨rfl, hu'⟩
          obtain ⟨d, hd, bb, ll, gs, rfl, sb, lg, _, pg⟩ := pD.at_ hu'
          refine ⟨bb, _, rfl, ea.sqT sb, rfl, _, _, rfl, _, _, rfl, rfl, rfl, _, rfl, _, la, ?_, ea.app (.inr (.of hG)) la, ?_⟩
          · rw [List.length_map, List.length_map, List.length_take, sizeLine_eq]
            omega
          · rw [take_map (fun d : Deed => d.1) hd, List.map_append]
            exact upd_same
        · rintro Ha ⟨ea, la⟩
          rw [dlen, List.take_length] at la
          have fa := f9.keep ea
          refine ⟨G, ds.map (·.1), rfl, .of la, rfl, false, ?_, iteF ?_⟩
          · show V.bl (!decide (V.int (ticksS ds) = V.int (ds.map (·.1)).sum)) = V.bl false
            unfold ticksS
            simp
          obtain ⟨dxa, nva, rva, ba, sva, lva, psa, ga, ia, _⟩ := id fa.ex
          have ta := Tabs.keep0 (Tabs.keep0 t8 y9) ea
          have ya := y9.trans ea
          refine ⟨_, rfl, _, rfl, _, rfl, _, rfl, a1, dxa, _, rfl, ia, rfl, a1, p1, n, r, _, _, m1, rfl, fa, fun v dv => ?_⟩
          refine ⟨nv, rv, v, D, n, r, pth, ds, rfl, ya.net (e8.net (e7.net dn6)), ya.rule (e8.rule (e7.rule drv6)), nok, rok, d9.keep ea, dok, dl, dv, ta, fun Hz ez tz => ⟨true, rfl, iteF ?_⟩⟩
          have ez' : Ex false [] H6 Hz := ((e7.trans e8).trans ya.weak).trans ez
          exact ⟨_, _, _, _, _, _, _, _, _, rfl, e6.trans ez', tz, p6.keep ez'⟩
      · rintro σ H3 ⟨z1, z3, z4, z5, z6, z7, z8, z9, z10, rfl, e3, t3, p3⟩
        exact ⟨_, _, _, _, _, _, _, _, _, _, rfl, e3, t3⟩
    · rintro σ H1 _
      exact k H1
end Fb
set_option maxHeartbeats 0
namespace Fb
open PySem PySem.Spec PyProof.Rows L2
variable {P : Program} {w : World} {K : PySem.W.Frag} {mg : Str → Option Value} {base : Heap} {C : Addr}
/-! ### the head: what stands behind the top -/
def dg (x : Str) (st : Stmt) : He.DefD := ⟨(x, none), x, x, defArgs st, defBody st, defScope st, [], []⟩
def dm (x q : Str) (st : Stmt) : He.DefD := ⟨("Finder", some x), x, q, defArgs st, defBody st, defScope st, [], []⟩
def fn0 : List He.DefD := [dg "is_whole" s_is_whole, dg "is_within" s_is_within, dg "rises" s_rises, dg "is_way" s_is_way, dg "is_house" s_is_house, dg "place_by" s_place_by, dg "is_net" s_is_net, dg "need_net" s_need_net, dg "is_place" s_is_place, dg "is_stand_by" s_is_stand_by, dg "need_stand" s_need_stand, dg "all_stands" s_all_stands, dg "far" s_far, dg "is_sign_by" s_is_sign_by, dg "need_sign" s_need_sign, dg "due_at" s_due_at, dg "slip_by" s_slip_by, dg "fits_by" s_fits_by, dg "need_signed" s_need_signed, dg "fits" s_fits, dg "is_rule" s_is_rule, dg "need_rule" s_need_rule, dg "spread" s_spread, dg "widened" s_widened, dg "_law_said" s__law_said, dg "_law_cell_at" s__law_cell_at, dg "_law_pen" s__law_pen, dg "_law_draw" s__law_draw, dg "_law_pick" s__law_pick, dg "_law_far" s__law_far]
def fn1 : List He.DefD := [dg "_law_way" s__law_way, dg "_law_house" s__law_house, dg "_law_net" s__law_net, dg "_law_place_at" s__law_place_at, dg "_law_stands" s__law_stands, dg "_law_heard" s__law_heard, dg "_law_rule" s__law_rule, dg "_law_step" s__law_step, dg "_law_mirrored" s__law_mirrored, dg "_law_exchanged" s__law_exchanged, dg "_law_deeds" s__law_deeds, dg "_law_led" s__law_led, dg "_law_others_right" s__law_others_right, dg "law" s_law, dm "__init__" "Finder.__init__" m___init__, dm "stand_so" "Finder.stand_so" m_stand_so, dm "hear" "Finder.hear" m_hear, dm "go" "Finder.go" m_go, dm "tick" "Finder.tick" m_tick, dm "stands" "Finder.stands" m_stands, dm "__eq__" "Finder.__eq__" m___eq__]
def fn : List He.DefD := fn0 ++ fn1
def fa0 : List He.Fa := [.glo "is_whole", .glo "is_within", .glo "rises", .glo "is_way", .glo "is_house", .glo "place_by", .glo "is_net", .glo "need_net", .glo "is_place", .glo "is_stand_by", .glo "need_stand", .glo "all_stands", .glo "far", .glo "is_sign_by", .glo "need_sign", .glo "due_at", .glo "slip_by", .glo "fits_by", .glo "need_signed", .glo "fits", .glo "is_rule", .glo "need_rule", .glo "spread", .glo "widened", .glo "_law_said", .glo "_law_cell_at", .glo "_law_pen", .glo "_law_draw", .glo "_law_pick", .glo "_law_far"]
def fa1 : List He.Fa := [.glo "_law_way", .glo "_law_house", .glo "_law_net", .glo "_law_place_at", .glo "_law_stands", .glo "_law_heard", .glo "_law_rule", .glo "_law_step", .glo "_law_mirrored", .glo "_law_exchanged", .glo "_law_deeds", .glo "_law_led", .glo "_law_others_right", .glo "law", .free "isinstance", .free "int", .free "bool", .free "all", .free "zip", .free "tuple", .free "len", .free "range", .free "list", .free "max", .free "abs", .free "sorted", .free "min", .free "sum", .free "repr", .int "MOST_WAYS" 3]
def fa2 : List He.Fa := [.int "MOST_TICK" 300, .int "MOST_SIDE" 12, .int "MOST_CLOCKS" 12, .int "MOST_SLIP" 4, .int "MOST_HOUSES" 6, .int "MOST_HEARD" 3000, .int "MOST_FAR" 3, .int "MOST_DRIFT" 2, .int "MOST_TICKS" 60, .glo "BOUNDS", .glo "Finder", .cls "Finder", .mkr "Finder", .noat "Finder" "own_net", .noat "Finder" "own_rule", .noat "Finder" "now", .noat "Finder" "past", .meth "Finder" "stand_so", .meth "Finder" "hear", .meth "Finder" "go", .meth "Finder" "tick", .meth "Finder" "stands", .meth "Finder" "__eq__"]
def fa : List He.Fa := fa0 ++ fa1 ++ fa2
def loose0 : List Str := ["_wall", "BeatError", "NoCode", "NoRegister", "NoPair", "NoCodes", "NoSetting", "NoAir", "NoNumber", "NoBits", "NoLetters", "NoWay", "NoHouse", "NoTick", "NoNet", "NoStand", "NoSign", "NoSigns", "NoPlaces", "NoRule", "NoLog", "NoBase", "NoPairs", "NotNow", "NoDeed", "NoLine", "NoText", "is_whole", "is_within", "rises"]
def loose1 : List Str := ["BOUNDS", "MOST_WAYS", "MOST_TICK", "is_way", "is_house", "place_by", "MOST_SIDE", "MOST_CLOCKS", "MOST_SLIP", "MOST_HOUSES", "MOST_HEARD", "is_net", "need_net", "is_place", "is_stand_by", "need_stand", "all_stands", "far", "is_sign_by", "need_sign", "due_at", "slip_by", "fits_by", "need_signed", "fits", "MOST_FAR", "MOST_DRIFT", "is_rule", "need_rule", "spread"]
def loose2 : List Str := ["widened", "MOST_TICKS", "Finder", "_law_kind", "_law_said", "_law_cell_at", "_law_pen", "_law_draw", "_law_pick", "_law_far", "_law_way", "_law_house", "_law_net", "_law_place_at", "_law_stands", "_law_heard", "_law_rule", "_law_step", "_law_mirrored", "_law_exchanged", "_law_deeds", "_law_led", "_law_others_right"]
def loose : List Str := loose0 ++ loose1 ++ loose2
def tf : List He.Defn := [("_law_led", none)]
/-- the values of a written tuple -/
def kTup (K : PySem.W.Frag) (a : Addr) : Option (List Value) := match K.lookup a with
  | some ⟨.type t, _, .seq its _, _⟩ => if t = "tuple" then some its.toList else none
  | _ => none
theorem kTup_ok {K : PySem.W.Frag} {a : Addr} {us : List Value} {xs : List V} (h : kTup K a = some us) (r : Vals xs us) (hz : us.length ≤ 100) (H : Hp) : SqT K H a xs := by
  unfold kTup at h
  cases q : K.lookup a with
  | none =>
    rw [q] at h
    cases h
  | some o =>
    obtain ⟨oc, od, dt, osl⟩ := o
    rw [q] at h
    cases oc with
    | type t =>
      cases dt with
      | seq its n =>
        by_cases ht : t = "tuple"
        · have h2 : (if t = "tuple" then some its.toList else none) = some us := h
          rw [if_pos ht] at h2
          have h3 := Option.some.inj h2
          refine .inr ⟨_, its, n, q, congrArg Value.type ht, rfl, ?_, by rw [h3]; exact r⟩
          rw [← h3, Array.length_toList] at hz
          rw [sizeLine_eq]
          omega
        · have h2 : (if t = "tuple" then some its.toList else none) = some us := h
          rw [if_neg ht] at h2
          cases h2
      | _ => cases h
    | _ => cases h
/-- a written pair of these -/
def kPair (K : PySem.W.Frag) (v : Value) (i j : Int) : Bool := match v with
  | .ref a => (match kTup K a with
    | some [.int x _, .int y _] => decide (x = i) && decide (y = j)
    | _ => false)
  | _ => false
theorem kPair_ok {K : PySem.W.Frag} {v : Value} {i j : Int} (h : kPair K v i j = true) : ∃ a : Addr, v = .ref a ∧ ∀ H : Hp, SqT K H a [.int i, .int j] := by
  unfold kPair at h
  split at h
  · rename_i a
    split at h
    · rename_i x t y u e
      rw [Bool.and_eq_true, decide_eq_true_iff, decide_eq_true_iff] at h
      obtain ⟨rfl, rfl⟩ := h
      exact ⟨a, rfl, fun H => kTup_ok (xs := [.int x, .int y]) e (.cons ⟨t, rfl⟩ (.cons ⟨u, rfl⟩ .nil)) (by show 2 ≤ 100; decide) H⟩
    · cases h
  · cases h
def kBnds (K : PySem.W.Frag) (a : Addr) : Bool := match kTup K a with
  | some [v0, v1, v2, v3, v4] => kPair K v0 0 255 && (kPair K v1 (-50) 100 && (kPair K v2 (-50) 100 && (kPair K v3 (-7) 7 && kPair K v4 (-7) 7)))
  | _ => false
theorem kBnds_ok {K : PySem.W.Frag} {mg : Str → Option Value} {a : Addr} (g : mg "BOUNDS" = some (.ref a)) (h : kBnds K a = true) : Bnds K mg := by
  unfold kBnds at h
  split at h
  · rename_i v0 v1 v2 v3 v4 e
    rw [Bool.and_eq_true, Bool.and_eq_true, Bool.and_eq_true, Bool.and_eq_true] at h
    obtain ⟨h0, h1, h2, h3, h4⟩ := h
    obtain ⟨b0, rfl, s0⟩ := kPair_ok h0
    obtain ⟨b1, rfl, s1⟩ := kPair_ok h1
    obtain ⟨b2, rfl, s2⟩ := kPair_ok h2
    obtain ⟨b3, rfl, s3⟩ := kPair_ok h3
    obtain ⟨b4, rfl, s4⟩ := kPair_ok h4
    exact ⟨a, b0, b1, b2, b3, b4, g, fun H => ⟨kTup_ok (xs := [.ref b0, .ref b1, .ref b2, .ref b3, .ref b4]) e (.cons rfl (.cons rfl (.cons rfl (.cons rfl (.cons rfl .nil))))) (by show 5 ≤ 100; decide) H, s0 H, s1 H, s2 H, s3 H, s4 H⟩⟩
  · cases h
def ex (K : PySem.W.Frag) : Bool := kBnds K (He.ga K "BOUNDS") && (He.eqO (PySem.W.findIn K (.ref (He.ga K "Finder")) "__class__") (some (some (.builtin "object.__class__"))) && (He.eqO (PySem.W.specialIn K (.builtin "object.__class__") "__get__") (some (some (.builtin "getset_descriptor.__get__"))) &&
  (decide (PySem.W.takesIn K (.builtin "object.__class__") = some true) && (decide (PySem.W.mroIn K (He.ga K "Finder") (.type "object") = some true) && (decide (PySem.W.kitOne K (.ref (He.ga K "Finder")) (.ref (He.ga K "Finder")) = some true) && He.eqO (PySem.W.findIn K (.ref (He.ga K "Finder")) "__ne__") (some (some (.builtin "object.__ne__"))))))))
abbrev R : PySem.W.OpenRow := PySem.W.OpenLaw.row PySem.Challenge.rw_farbeats_k91_whole_finders
abbrev hk : PySem.W.Hook := He.hookX 4 fa fn [] tf ex
def ob (s : PySem.W.SharedT) : He.AlX := He.obsX 4 fa fn [] tf ex (HandSHeadRun.getT s)
theorem ob_eq (s : PySem.W.SharedT) : ob s = hk.obs s.abs := He.obsX_eq (HandSHeadRun.getT_eq s)
theorem run (w : World) : HandSHeadRun.RunEq R (PySem.W.view R.prog [90]) hk ob 20000 loose w := by
  intro os
  kernel_rfl
theorem funOfD {K : PySem.W.Frag} {x q : Str} {st : Stmt} {f : Addr} {fd : FuncData} (F : FunD K x q (defArgs st) (defBody st) (defScope st) [] [] f fd) : Fun K x q st f fd := by
  obtain ⟨oc, od, dV, kV, doc, pm, an, cdv, ct, osl, e, lk, hcd, hD, hK⟩ := F.ex
  rcases hD with ⟨_, rfl⟩ | ⟨z, _⟩
  · exact ⟨⟨oc, od, kV, doc, pm, an, cdv, ct, osl, e, lk, hcd⟩, F.kp⟩
  · exact absurd rfl z
section
variable {h : Heap} {mg : Str → Option Value} {K : PySem.W.Frag}
theorem dfnOf {x : Str} {st : Stmt} (X : K.In h) (G : h.Ns mainGlobals mg) (c1 : (He.Fa.glo x).ok K = true) (c2 : ∃ fd, FunD K x x (defArgs st) (defBody st) (defScope st) [] [] (He.fAd K (x, none)) fd) : Dfn K mg x st := by
  obtain ⟨fd, F⟩ := c2
  exact ⟨_, fd, funOfD F, He.glo_ok X G c1⟩
theorem mthOf {x q : Str} {st : Stmt} (c1 : (He.Fa.meth "Finder" x).ok K = true) (c2 : ∃ fd, FunD K x q (defArgs st) (defBody st) (defScope st) [] [] (He.fAd K ("Finder", some x)) fd) : Mth K (He.ga K "Finder") x q st := by
  obtain ⟨fd, F⟩ := c2
  exact ⟨_, fd, funOfD F, He.meth_ok c1⟩
theorem txt (X : K.In h) (G : h.Ns mainGlobals mg) (c : He.SaysD fa fn K) (m : ex K = true) : Txt K mg (He.ga K "Finder") := by
  unfold ex at m
  rw [Bool.and_eq_true, Bool.and_eq_true, Bool.and_eq_true, Bool.and_eq_true, Bool.and_eq_true, Bool.and_eq_true] at m
  obtain ⟨m0, m1, m2, m3, m4, m5, m6⟩ := m
  obtain ⟨fdI, FI⟩ := c.def_ 44 (d := dm "__init__" "Finder.__init__" m___init__) rfl
  exact {
    b_isinstance := He.free_ok X G (c.fact 44 (f := .free "isinstance") rfl)
    b_int := He.free_ok X G (c.fact 45 (f := .free "int") rfl)
    b_bool := He.free_ok X G (c.fact 46 (f := .free "bool") rfl)
    b_all := He.free_ok X G (c.fact 47 (f := .free "all") rfl)
    b_zip := He.free_ok X G (c.fact 48 (f := .free "zip") rfl)
    b_tuple := He.free_ok X G (c.fact 49 (f := .free "tuple") rfl)
    b_len := He.free_ok X G (c.fact 50 (f := .free "len") rfl)
    b_range := He.free_ok X G (c.fact 51 (f := .free "range") rfl)
    b_list := He.free_ok X G (c.fact 52 (f := .free "list") rfl)
    b_max := He.free_ok X G (c.fact 53 (f := .free "max") rfl)
    b_abs := He.free_ok X G (c.fact 54 (f := .free "abs") rfl)
    b_sorted := He.free_ok X G (c.fact 55 (f := .free "sorted") rfl)
    b_min := He.free_ok X G (c.fact 56 (f := .free "min") rfl)
    b_sum := He.free_ok X G (c.fact 57 (f := .free "sum") rfl)
    b_repr := He.free_ok X G (c.fact 58 (f := .free "repr") rfl)
    c_MOST_WAYS := He.int_ok X G (c.fact 59 (f := .int "MOST_WAYS" 3) rfl)
    c_MOST_TICK := He.int_ok X G (c.fact 60 (f := .int "MOST_TICK" 300) rfl)
    c_MOST_SIDE := He.int_ok X G (c.fact 61 (f := .int "MOST_SIDE" 12) rfl)
    c_MOST_CLOCKS := He.int_ok X G (c.fact 62 (f := .int "MOST_CLOCKS" 12) rfl)
    c_MOST_SLIP := He.int_ok X G (c.fact 63 (f := .int "MOST_SLIP" 4) rfl)
    c_MOST_HOUSES := He.int_ok X G (c.fact 64 (f := .int "MOST_HOUSES" 6) rfl)
    c_MOST_HEARD := He.int_ok X G (c.fact 65 (f := .int "MOST_HEARD" 3000) rfl)
    c_MOST_FAR := He.int_ok X G (c.fact 66 (f := .int "MOST_FAR" 3) rfl)
    c_MOST_DRIFT := He.int_ok X G (c.fact 67 (f := .int "MOST_DRIFT" 2) rfl)
    c_MOST_TICKS := He.int_ok X G (c.fact 68 (f := .int "MOST_TICKS" 60) rfl)
    bounds := kBnds_ok (He.glo_ok X G (c.fact 69 (f := .glo "BOUNDS") rfl)) m0
    d_is_whole := dfnOf X G (c.fact 0 (f := .glo "is_whole") rfl) (c.def_ 0 (d := dg "is_whole" s_is_whole) rfl)
    d_is_within := dfnOf X G (c.fact 1 (f := .glo "is_within") rfl) (c.def_ 1 (d := dg "is_within" s_is_within) rfl)
    d_rises := dfnOf X G (c.fact 2 (f := .glo "rises") rfl) (c.def_ 2 (d := dg "rises" s_rises) rfl)
    d_is_way := dfnOf X G (c.fact 3 (f := .glo "is_way") rfl) (c.def_ 3 (d := dg "is_way" s_is_way) rfl)
    d_is_house := dfnOf X G (c.fact 4 (f := .glo "is_house") rfl) (c.def_ 4 (d := dg "is_house" s_is_house) rfl)
    d_place_by := dfnOf X G (c.fact 5 (f := .glo "place_by") rfl) (c.def_ 5 (d := dg "place_by" s_place_by) rfl)
    d_is_net := dfnOf X G (c.fact 6 (f := .glo "is_net") rfl) (c.def_ 6 (d := dg "is_net" s_is_net) rfl)
    d_need_net := dfnOf X G (c.fact 7 (f := .glo "need_net") rfl) (c.def_ 7 (d := dg "need_net" s_need_net) rfl)
    d_is_place := dfnOf X G (c.fact 8 (f := .glo "is_place") rfl) (c.def_ 8 (d := dg "is_place" s_is_place) rfl)
    d_is_stand_by := dfnOf X G (c.fact 9 (f := .glo "is_stand_by") rfl) (c.def_ 9 (d := dg "is_stand_by" s_is_stand_by) rfl)
    d_need_stand := dfnOf X G (c.fact 10 (f := .glo "need_stand") rfl) (c.def_ 10 (d := dg "need_stand" s_need_stand) rfl)
    d_all_stands := dfnOf X G (c.fact 11 (f := .glo "all_stands") rfl) (c.def_ 11 (d := dg "all_stands" s_all_stands) rfl)
    d_far := dfnOf X G (c.fact 12 (f := .glo "far") rfl) (c.def_ 12 (d := dg "far" s_far) rfl)
    d_is_sign_by := dfnOf X G (c.fact 13 (f := .glo "is_sign_by") rfl) (c.def_ 13 (d := dg "is_sign_by" s_is_sign_by) rfl)
    d_need_sign := dfnOf X G (c.fact 14 (f := .glo "need_sign") rfl) (c.def_ 14 (d := dg "need_sign" s_need_sign) rfl)
    d_due_at := dfnOf X G (c.fact 15 (f := .glo "due_at") rfl) (c.def_ 15 (d := dg "due_at" s_due_at) rfl)
    d_slip_by := dfnOf X G (c.fact 16 (f := .glo "slip_by") rfl) (c.def_ 16 (d := dg "slip_by" s_slip_by) rfl)
    d_fits_by := dfnOf X G (c.fact 17 (f := .glo "fits_by") rfl) (c.def_ 17 (d := dg "fits_by" s_fits_by) rfl)
    d_need_signed := dfnOf X G (c.fact 18 (f := .glo "need_signed") rfl) (c.def_ 18 (d := dg "need_signed" s_need_signed) rfl)
    d_fits := dfnOf X G (c.fact 19 (f := .glo "fits") rfl) (c.def_ 19 (d := dg "fits" s_fits) rfl)
    d_is_rule := dfnOf X G (c.fact 20 (f := .glo "is_rule") rfl) (c.def_ 20 (d := dg "is_rule" s_is_rule) rfl)
    d_need_rule := dfnOf X G (c.fact 21 (f := .glo "need_rule") rfl) (c.def_ 21 (d := dg "need_rule" s_need_rule) rfl)
    d_spread := dfnOf X G (c.fact 22 (f := .glo "spread") rfl) (c.def_ 22 (d := dg "spread" s_spread) rfl)
    d_widened := dfnOf X G (c.fact 23 (f := .glo "widened") rfl) (c.def_ 23 (d := dg "widened" s_widened) rfl)
    d__law_said := dfnOf X G (c.fact 24 (f := .glo "_law_said") rfl) (c.def_ 24 (d := dg "_law_said" s__law_said) rfl)
    d__law_cell_at := dfnOf X G (c.fact 25 (f := .glo "_law_cell_at") rfl) (c.def_ 25 (d := dg "_law_cell_at" s__law_cell_at) rfl)
    d__law_pen := dfnOf X G (c.fact 26 (f := .glo "_law_pen") rfl) (c.def_ 26 (d := dg "_law_pen" s__law_pen) rfl)
    d__law_draw := dfnOf X G (c.fact 27 (f := .glo "_law_draw") rfl) (c.def_ 27 (d := dg "_law_draw" s__law_draw) rfl)
    d__law_pick := dfnOf X G (c.fact 28 (f := .glo "_law_pick") rfl) (c.def_ 28 (d := dg "_law_pick" s__law_pick) rfl)
    d__law_far := dfnOf X G (c.fact 29 (f := .glo "_law_far") rfl) (c.def_ 29 (d := dg "_law_far" s__law_far) rfl)
    d__law_way := dfnOf X G (c.fact 30 (f := .glo "_law_way") rfl) (c.def_ 30 (d := dg "_law_way" s__law_way) rfl)
    d__law_house := dfnOf X G (c.fact 31 (f := .glo "_law_house") rfl) (c.def_ 31 (d := dg "_law_house" s__law_house) rfl)
    d__law_net := dfnOf X G (c.fact 32 (f := .glo "_law_net") rfl) (c.def_ 32 (d := dg "_law_net" s__law_net) rfl)
    d__law_place_at := dfnOf X G (c.fact 33 (f := .glo "_law_place_at") rfl) (c.def_ 33 (d := dg "_law_place_at" s__law_place_at) rfl)
    d__law_stands := dfnOf X G (c.fact 34 (f := .glo "_law_stands") rfl) (c.def_ 34 (d := dg "_law_stands" s__law_stands) rfl)
    d__law_heard := dfnOf X G (c.fact 35 (f := .glo "_law_heard") rfl) (c.def_ 35 (d := dg "_law_heard" s__law_heard) rfl)
    d__law_rule := dfnOf X G (c.fact 36 (f := .glo "_law_rule") rfl) (c.def_ 36 (d := dg "_law_rule" s__law_rule) rfl)
    d__law_step := dfnOf X G (c.fact 37 (f := .glo "_law_step") rfl) (c.def_ 37 (d := dg "_law_step" s__law_step) rfl)
    d__law_mirrored := dfnOf X G (c.fact 38 (f := .glo "_law_mirrored") rfl) (c.def_ 38 (d := dg "_law_mirrored" s__law_mirrored) rfl)
    d__law_exchanged := dfnOf X G (c.fact 39 (f := .glo "_law_exchanged") rfl) (c.def_ 39 (d := dg "_law_exchanged" s__law_exchanged) rfl)
    d__law_deeds := dfnOf X G (c.fact 40 (f := .glo "_law_deeds") rfl) (c.def_ 40 (d := dg "_law_deeds" s__law_deeds) rfl)
    d__law_led := dfnOf X G (c.fact 41 (f := .glo "_law_led") rfl) (c.def_ 41 (d := dg "_law_led" s__law_led) rfl)
    d__law_others_right := dfnOf X G (c.fact 42 (f := .glo "_law_others_right") rfl) (c.def_ 42 (d := dg "_law_others_right" s__law_others_right) rfl)
    cl := He.cls_ok (c.fact 71 (f := .cls "Finder") rfl)
    mgC := He.glo_ok X G (c.fact 70 (f := .glo "Finder") rfl)
    n_own_net := He.noat_ok (c.fact 73 (f := .noat "Finder" "own_net") rfl)
    n_own_rule := He.noat_ok (c.fact 74 (f := .noat "Finder" "own_rule") rfl)
    n_now := He.noat_ok (c.fact 75 (f := .noat "Finder" "now") rfl)
    n_past := He.noat_ok (c.fact 76 (f := .noat "Finder" "past") rfl)
    i_init := ⟨_, fdI, funOfD FI, He.mkr_ok (c.fact 72 (f := .mkr "Finder") rfl)⟩
    m_stand_so := mthOf (c.fact 77 (f := .meth "Finder" "stand_so") rfl) (c.def_ 45 (d := dm "stand_so" "Finder.stand_so" m_stand_so) rfl)
    m_hear := mthOf (c.fact 78 (f := .meth "Finder" "hear") rfl) (c.def_ 46 (d := dm "hear" "Finder.hear" m_hear) rfl)
    m_go := mthOf (c.fact 79 (f := .meth "Finder" "go") rfl) (c.def_ 47 (d := dm "go" "Finder.go" m_go) rfl)
    m_tick := mthOf (c.fact 80 (f := .meth "Finder" "tick") rfl) (c.def_ 48 (d := dm "tick" "Finder.tick" m_tick) rfl)
    m_stands := mthOf (c.fact 81 (f := .meth "Finder" "stands") rfl) (c.def_ 49 (d := dm "stands" "Finder.stands" m_stands) rfl)
    m___eq__ := mthOf (c.fact 82 (f := .meth "Finder" "__eq__") rfl) (c.def_ 50 (d := dm "__eq__" "Finder.__eq__" m___eq__) rfl)
    kcls := He.eqO_ok m1
    kget := He.eqO_ok m2
    ktak := of_decide_eq_true m3
    kmro := of_decide_eq_true m4
    kone := of_decide_eq_true m5
    kne := He.eqO_ok m6 }
abbrev p0 : He.Defn := ("_law_led", none)
theorem led {base : Heap} (X : K.In h) (G : h.Ns mainGlobals mg) (c : He.SaysD fa fn K) (tb : LamX.TabB base mg (He.cT K p0).1 (He.cT K p0).2) : LedT K mg base (He.cT K p0).1 (He.cT K p0).2 := by
  obtain ⟨fd, F⟩ := c.def_ 41 (d := dg "_law_led" s__law_led) rfl
  obtain ⟨oc, od, kV, doc, pm, an, cdv, ct, osl, e, lk, hcd⟩ := (funOfD (x := "_law_led") (q := "_law_led") (st := s__law_led) F).ex
  obtain ⟨cc, rfl⟩ := He.codeIn_ref hcd
  subst e
  have ec : (He.cT K p0).1 = cc := He.codeOf_eq lk rfl
  refine ⟨⟨_, oc, od, kV, doc, pm, an, ct, osl, ?_, ?_, F.kp, He.glo_ok X G (c.fact 41 (f := .glo "_law_led") rfl)⟩, tb⟩
  · rw [ec]
    exact lk
  · rw [ec]
    exact hcd
end
end Fb
open PySem PySem.W PySem.Calls PyProof.Rows
theorem PySem.Challenge.cw_farbeats_k91_whole_finders_holds : PySem.Challenge.rw_farbeats_k91_whole_finders.Holds := by
  w_on; o_law
  refine HandSHeadRun.head_any (r := OpenLaw.row PySem.Challenge.rw_farbeats_k91_whole_finders) (q := view (OpenLaw.row PySem.Challenge.rw_farbeats_k91_whole_finders).prog [90]) (H := Fb.hk) (ob := Fb.ob) (M := 20000) (loose := Fb.loose) (d := HandSHeadRun.topDef (OpenLaw.row PySem.Challenge.rw_farbeats_k91_whole_finders).prog 90) (kwd := []) Fb.ob_eq
    (by kernel_rfl) (fun s => by kernel_rfl) Fb.run (by kernel_rfl) (by kernel_rfl) (by kernel_rfl) (by rfl) (by first | assumption | decide +kernel) (by decide +kernel) ⟨rfl, rfl, rfl, rfl, rfl, by decide +kernel⟩ ?hw ?hc
  case hw => w_witness2
  case hc =>
    refine LamX.walk_ofTsE (l := PySem.Challenge.rw_farbeats_k91_whole_finders) (n := 63) (k := 12) (x := "_law_script") (CX := fun _ => L2.CX0) rfl (by decide) (by kernel_rfl) ⟨rfl, by decide, by decide⟩ ?F (fun _ _ _ _ _ z => z)
    intro w mg fa h Y G hmg0
    obtain ⟨K, KX, c⟩ := Y
    have hmg : mg ("law" : PySem.Str) = some (.ref fa) := by
      have e : (HandSHeadRun.topDef (OpenLaw.row PySem.Challenge.rw_farbeats_k91_whole_finders).prog 90).name = ("law" : PySem.Str) := by kernel_rfl
      rw [← e]
      exact hmg0
    have T := Fb.txt KX G c.t.d c.more
    obtain ⟨fd, F⟩ := He.SaysD.def_ c.t.d 43 (d := Fb.dg "law" Fb.s_law) rfl
    have e := hmg.symm.trans (He.glo_ok KX G (He.SaysD.fact c.t.d 43 (f := .glo "law") rfl))
    cases e
    have F2 := Fb.funOfD (x := "law") (q := "law") (st := Fb.s_law) F
    have b := L2.FunD.bindsA (ps := ["_law_script"]) F fun _ _ _ _ _ _ us hl => match us, hl with | [_], _ => rfl
    have hm : Fb.p0 ∈ Fb.tf := List.mem_singleton.mpr rfl
    refine ⟨K, KX, fd, [He.cT K Fb.p0], Fb.spLaw K (He.cT K Fb.p0).2, ?_, ?_, ?_, fun s v => b s [v] rfl, ?_, fun base KB GB TB => ?_⟩
    · intro p hp
      rw [List.mem_singleton.mp hp]
      exact c.empty _ hm
    · intro p hp
      rw [List.mem_singleton.mp hp]
      exact c.out _ hm
    · intro p hp
      rw [List.mem_singleton.mp hp]
      exact PySem.W.codeHd_of_K KX (c.hd _ hm)
    · intro H a ns hl _ hT hS
      refine ⟨a, ns, rfl, hS, hl, fun z hz => ?_, fun _ => rfl⟩
      rw [List.mem_singleton.mp hz]
      exact LamX.TabS.nil (hT (He.cT K Fb.p0) (List.mem_singleton.mpr rfl))
    · exact Fb.ok_law T (Fb.led KB GB c.t.d (TB _ (List.mem_singleton.mpr rfl))) F2
