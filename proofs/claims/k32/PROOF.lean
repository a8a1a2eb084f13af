import PyProof.Rows.All
import Wide.All
import OpenK.AllK
import Wide.FinOn
import KE.GoesMore
import KE.GoesEnum
import HandS.ForMost
import HandS.IsInst
import HandS.TupAny
import HandS.Deep
import HandS.Wide
import HandS.Walk
import HandS.Evl
import HandS.Defaults
import HandS.DictComp
import HandS.Conv
import KE.KStateDown
import Lean
import HandS.Base
import HandS.Call
import HandS.Ends
import HandS.More
import HandS.Words
import HandS.WordsExc
import HandS.Head0
import HandS.Head1
import HandS.Head2
import HandS.HeadEnd
import HandS.HeadHook1
import HandS.HeadHook2
import PySem.Challenge.RW_dividedseats_k32_whole_what_methods_do_n
set_option Elab.async false
set_option linter.all false
set_option maxRecDepth 100000
/-! The mathematics of the law, in plain Lean: conditions, walks of conditions, rounds; seats given one by one; all seats. -/
namespace Ds

abbrev Cond := Int × Int × Int × Int
abbrev Res := List Int × List Int

/-! ### integers -/
theorem mul_mono {a b c d : Int} (h1 : a ≤ b) (h2 : c ≤ d) (h3 : 0 ≤ c) (h4 : 0 ≤ b) : a * c ≤ b * d :=
  Int.le_trans (Int.mul_le_mul_of_nonneg_right h1 h3) (Int.mul_le_mul_of_nonneg_left h2 h4)
theorem cancel_le {a b c : Int} (hc : 0 < c) (h : a * c ≤ b * c) : a ≤ b := Int.le_of_mul_le_mul_right h hc
/-- fractions: a / b ≤ c / d -/
def Fle (x y : Int × Int) : Prop := x.1 * y.2 ≤ y.1 * x.2
def Fpos (x : Int × Int) : Prop := 0 < x.1 ∧ 0 < x.2
theorem Fle.rfl {x : Int × Int} : Fle x x := Int.le_refl _
theorem Fle.trans {x y z : Int × Int} (hx : Fpos x) (hy : Fpos y) (hz : Fpos z) (h1 : Fle x y) (h2 : Fle y z) : Fle x z := by
  unfold Fle at *
  have a : x.1 * y.2 * z.2 ≤ y.1 * x.2 * z.2 := Int.mul_le_mul_of_nonneg_right h1 (Int.le_of_lt hz.2)
  have b : y.1 * z.2 * x.2 ≤ z.1 * y.2 * x.2 := Int.mul_le_mul_of_nonneg_right h2 (Int.le_of_lt hx.2)
  refine cancel_le hy.2 ?_
  have e1 : x.1 * z.2 * y.2 = x.1 * y.2 * z.2 := by rw [Int.mul_assoc, Int.mul_comm z.2, ← Int.mul_assoc]
  have e2 : z.1 * x.2 * y.2 = z.1 * y.2 * x.2 := by rw [Int.mul_assoc, Int.mul_comm x.2, ← Int.mul_assoc]
  have e3 : y.1 * x.2 * z.2 = y.1 * z.2 * x.2 := by rw [Int.mul_assoc, Int.mul_comm x.2, ← Int.mul_assoc]
  rw [e1, e2]
  omega
def Fmul (x y : Int × Int) : Int × Int := (x.1 * y.1, x.2 * y.2)
theorem Fpos.mul {x y : Int × Int} (hx : Fpos x) (hy : Fpos y) : Fpos (Fmul x y) := ⟨Int.mul_pos hx.1 hy.1, Int.mul_pos hx.2 hy.2⟩
theorem mul4 (a b c d : Int) : a * b * (c * d) = a * c * (b * d) := by
  rw [Int.mul_assoc, Int.mul_assoc, ← Int.mul_assoc b, ← Int.mul_assoc c, Int.mul_comm b c]
theorem Fle.mul {x y u v : Int × Int} (hx : Fpos x) (hy : Fpos y) (hu : Fpos u) (hv : Fpos v) (h1 : Fle x y) (h2 : Fle u v) : Fle (Fmul x u) (Fmul y v) := by
  unfold Fle Fmul at *
  show x.1 * u.1 * (y.2 * v.2) ≤ y.1 * v.1 * (x.2 * u.2)
  rw [mul4, mul4 y.1]
  exact mul_mono h1 h2 (Int.le_of_lt (Int.mul_pos hu.1 hv.2)) (Int.le_of_lt (Int.mul_pos hy.1 hx.2))

/-! ### conditions -/
def condAt (v s : List Int) (i j : Nat) : Cond := (s.getD i 0 - 1, s.getD j 0, v.getD i 0, v.getD j 0)
def othersOf (v s : List Int) (i : Nat) : List Nat := (List.range v.length).filter fun j => decide (j ≠ i) && decide (s.getD i 0 > 0)
def condsAt (v s : List Int) (i : Nat) : List Cond := (othersOf v s i).map (condAt v s i)
def condsOf (r : Res) : List Cond := (List.range r.2.length).flatMap (condsAt r.1 r.2)
def seenL (rs : List Res) : List Cond := rs.flatMap condsOf
def ups (t : Nat) : List Cond := (List.range t).map fun (k : Nat) => ((k : Int), (k : Int) + 1, 1, 1)
def allC (rs : List Res) (t : Nat) : List Cond := seenL rs ++ ups t
/-- results as the program checks them -/
structure GoodV (v : List Int) : Prop where
  len : v.length ≤ 5
  one : ∀ x ∈ v, 1 ≤ x ∧ x ≤ 1000000
structure GoodS (v s : List Int) : Prop where
  len : s.length = v.length
  one : ∀ x ∈ s, 0 ≤ x ∧ x ≤ 8
  sum : s.sum ≤ 8
def GoodR (r : Res) : Prop := GoodV r.1 ∧ GoodS r.1 r.2
theorem getD_of {l : List Int} {i : Nat} (h : i < l.length) : l[i]? = some (l.getD i 0) := by
  simp [List.getD, List.getElem?_eq_getElem h]
theorem getD_mem {l : List Int} {i : Nat} (h : i < l.length) : l.getD i 0 ∈ l := List.mem_of_getElem? (getD_of h)
theorem getD_out {l : List Int} {i : Nat} (h : l.length ≤ i) : l.getD i 0 = 0 := by
  simp [List.getD, List.getElem?_eq_none h]
theorem mem_seen {rs : List Res} {c : Cond} : c ∈ seenL rs ↔ ∃ r ∈ rs, ∃ i j, i < r.2.length ∧ j < r.1.length ∧ j ≠ i ∧ 0 < r.2.getD i 0 ∧ c = condAt r.1 r.2 i j := by
  unfold seenL condsOf condsAt othersOf
  simp only [List.mem_flatMap, List.mem_map, List.mem_filter, List.mem_range, Bool.and_eq_true, decide_eq_true_eq]
  constructor
  · rintro ⟨r, hr, i, hi, j, ⟨hj, hn, hp⟩, rfl⟩
    exact ⟨r, hr, i, j, hi, hj, hn, hp, rfl⟩
  · rintro ⟨r, hr, i, j, hi, hj, hn, hp, rfl⟩
    exact ⟨r, hr, i, hi, j, ⟨hj, hn, hp⟩, rfl⟩
theorem seen_mono {rs rs' : List Res} (h : ∀ r ∈ rs, r ∈ rs') {c : Cond} (hc : c ∈ seenL rs) : c ∈ seenL rs' := by
  obtain ⟨r, hr, x⟩ := mem_seen.mp hc
  exact mem_seen.mpr ⟨r, h r hr, x⟩
theorem mem_ups {t : Nat} {c : Cond} : c ∈ ups t ↔ ∃ k : Nat, k < t ∧ c = ((k : Int), (k : Int) + 1, 1, 1) := by
  unfold ups
  simp only [List.mem_map, List.mem_range]
  constructor
  · rintro ⟨k, hk, rfl⟩
    exact ⟨k, hk, rfl⟩
  · rintro ⟨k, hk, rfl⟩
    exact ⟨k, hk, rfl⟩
/-- what is known of a condition of good results -/
structure CondOk (c : Cond) : Prop where
  s0 : 0 ≤ c.1
  e0 : 0 ≤ c.2.1
  s8 : c.1 ≤ 8
  e8 : c.2.1 ≤ 8
  p0 : 0 < c.2.2.1
  q0 : 0 < c.2.2.2
  p1 : c.2.2.1 ≤ 1000000
  q1 : c.2.2.2 ≤ 1000000
theorem seen_ok {rs : List Res} (hg : ∀ r ∈ rs, GoodR r) {c : Cond} (hc : c ∈ seenL rs) : CondOk c := by
  obtain ⟨r, hr, i, j, hi, hj, hn, hp, rfl⟩ := mem_seen.mp hc
  obtain ⟨hv, hs⟩ := hg r hr
  have e := hs.len
  have a1 := hs.one _ (getD_mem hi)
  have a2 := hs.one _ (getD_mem (l := r.2) (i := j) (by omega))
  have b1 := hv.one _ (getD_mem (l := r.1) (i := i) (by omega))
  have b2 := hv.one _ (getD_mem hj)
  exact ⟨show 0 ≤ r.2.getD i 0 - 1 by omega, a2.1, show r.2.getD i 0 - 1 ≤ 8 by omega, a2.2, show 0 < r.1.getD i 0 by omega, show 0 < r.1.getD j 0 by omega, b1.2, b2.2⟩

/-! ### walks of conditions, rounds -/
def Wlk (C : List Cond) : Nat → Int → Int → Int × Int → Prop
  | 0, s, e, x => (s, e, x.1, x.2) ∈ C
  | n + 1, s, e, x => ∃ m y z, Wlk C n s m y ∧ (m, e, z.1, z.2) ∈ C ∧ x = Fmul y z
theorem Wlk.mono {C C' : List Cond} (h : ∀ c ∈ C, c ∈ C') : ∀ {n : Nat} {s e : Int} {x : Int × Int}, Wlk C n s e x → Wlk C' n s e x
  | 0, _, _, _, w => h _ w
  | _ + 1, _, _, _, ⟨m, y, z, w, hz, e⟩ => ⟨m, y, z, Wlk.mono h w, h _ hz, e⟩
structure IsTop (C : List Cond) (t : Nat) : Prop where
  le : ∀ c ∈ C, c.1 ≤ t ∧ c.2.1 ≤ t
  at_ : t = 0 ∨ ∃ c ∈ C, (t : Int) = c.1 ∨ (t : Int) = c.2.1
theorem IsTop.mono {C C' : List Cond} {t t' : Nat} (h : IsTop C t) (h' : IsTop C' t') (s : ∀ c ∈ C, c ∈ C') : t ≤ t' := by
  rcases h.at_ with e | ⟨c, hc, e⟩
  · omega
  · have a := h'.le c (s c hc)
    rcases e with e | e <;> omega
theorem exists_top : ∀ C : List Cond, ∃ t : Nat, IsTop C t
  | [] => ⟨0, fun c hc => (nomatch hc), .inl rfl⟩
  | c :: C => by
    obtain ⟨t, h⟩ := exists_top C
    by_cases h1 : c.1 ≤ t ∧ c.2.1 ≤ t
    · refine ⟨t, fun d hd => ?_, ?_⟩
      · rcases List.mem_cons.mp hd with e | hd
        · subst e
          exact h1
        · exact h.le d hd
      · rcases h.at_ with e | ⟨d, hd, e⟩
        · exact .inl e
        · exact .inr ⟨d, List.mem_cons_of_mem _ hd, e⟩
    · refine ⟨(max c.1 c.2.1).toNat, fun d hd => ?_, ?_⟩
      · rcases List.mem_cons.mp hd with e | hd
        · subst e
          omega
        · have := h.le d hd
          omega
      · exact .inr ⟨c, List.mem_cons_self, by omega⟩
def HasRound (rs : List Res) : Prop := ∃ t : Nat, IsTop (seenL rs) t ∧ ∃ n, n ≤ t ∧ ∃ s x, Wlk (allC rs t) n s s x ∧ x.1 < x.2
theorem round_mono {rs rs' : List Res} (h : ∀ r ∈ rs, r ∈ rs') (R : HasRound rs) : HasRound rs' := by
  obtain ⟨t, ht, n, hn, s, x, w, hx⟩ := R
  obtain ⟨t', ht'⟩ := exists_top (seenL rs')
  have hle : t ≤ t' := ht.mono ht' fun c hc => seen_mono h hc
  refine ⟨t', ht', n, by omega, s, x, w.mono fun c hc => ?_, hx⟩
  rcases List.mem_append.mp hc with hc | hc
  · exact List.mem_append_left _ (seen_mono h hc)
  · refine List.mem_append_right _ ?_
    obtain ⟨k, hk, e⟩ := mem_ups.mp hc
    exact mem_ups.mpr ⟨k, by omega, e⟩

/-! ### divisors -/
/-- positive, ascending -/
structure Asc (d : Int → Int) : Prop where
  pos : ∀ k, 0 ≤ k → 0 < d k
  up : ∀ k, 0 ≤ k → d k ≤ d (k + 1)
def Keeps (d : Int → Int) (v s : List Int) : Prop := ∀ i j : Nat, i < v.length → j < v.length → j ≠ i → 0 < s.getD i 0 → v.getD j 0 * d (s.getD i 0 - 1) ≤ v.getD i 0 * d (s.getD j 0)
def KeepsAll (d : Int → Int) (rs : List Res) : Prop := ∀ r ∈ rs, Keeps d r.1 r.2
theorem cond_kept {d : Int → Int} {rs : List Res} (hd : Asc d) (hg : ∀ r ∈ rs, GoodR r) (hk : KeepsAll d rs) {t : Nat} {c : Cond} (hc : c ∈ allC rs t) :
    0 ≤ c.1 ∧ 0 ≤ c.2.1 ∧ 0 < c.2.2.1 ∧ 0 < c.2.2.2 ∧ c.2.2.2 * d c.1 ≤ c.2.2.1 * d c.2.1 := by
  rcases List.mem_append.mp hc with hc | hc
  · have ok := seen_ok hg hc
    refine ⟨ok.s0, ok.e0, ok.p0, ok.q0, ?_⟩
    obtain ⟨r, hr, i, j, hi, hj, hn, hp, rfl⟩ := mem_seen.mp hc
    have e := (hg r hr).2.len
    exact hk r hr i j (by omega) hj hn hp
  · obtain ⟨k, hk, rfl⟩ := mem_ups.mp hc
    refine ⟨Int.natCast_nonneg k, show (0 : Int) ≤ (k : Int) + 1 by omega, (by decide : (0 : Int) < 1), (by decide : (0 : Int) < 1), ?_⟩
    have := hd.up k (Int.natCast_nonneg k)
    show 1 * d k ≤ 1 * d (k + 1)
    omega
theorem walk_kept {d : Int → Int} {rs : List Res} (hd : Asc d) (hg : ∀ r ∈ rs, GoodR r) (hk : KeepsAll d rs) {t : Nat} : ∀ {n : Nat} {s e : Int} {x : Int × Int}, Wlk (allC rs t) n s e x →
    0 ≤ s ∧ 0 ≤ e ∧ Fpos x ∧ x.2 * d s ≤ x.1 * d e
  | 0, s, e, x, w => by
    obtain ⟨h1, h2, h3, h4, h5⟩ := cond_kept hd hg hk w
    exact ⟨h1, h2, ⟨h3, h4⟩, h5⟩
  | n + 1, s, e, x, ⟨m, y, z, w, hz, ex⟩ => by
    obtain ⟨a1, a2, a3, a4⟩ := walk_kept hd hg hk w
    obtain ⟨b1, b2, b3, b4, b5⟩ := cond_kept hd hg hk hz
    have hz' : Fpos z := ⟨b3, b4⟩
    subst ex
    refine ⟨a1, b2, a3.mul hz', ?_⟩
    show y.2 * z.2 * d s ≤ y.1 * z.1 * d e
    have q1 : y.2 * d s * z.2 ≤ y.1 * d m * z.2 := Int.mul_le_mul_of_nonneg_right a4 (Int.le_of_lt b4)
    have q2 : z.2 * d m * y.1 ≤ z.1 * d e * y.1 := Int.mul_le_mul_of_nonneg_right b5 (Int.le_of_lt a3.1)
    have e1 : y.2 * z.2 * d s = y.2 * d s * z.2 := by rw [Int.mul_assoc, Int.mul_comm z.2, ← Int.mul_assoc]
    have e2 : y.1 * z.1 * d e = z.1 * d e * y.1 := by rw [Int.mul_assoc, Int.mul_comm y.1]
    have e3 : y.1 * d m * z.2 = z.2 * d m * y.1 := by ac_rfl
    rw [e1, e2]
    omega
theorem no_round {d : Int → Int} {rs : List Res} (hd : Asc d) (hg : ∀ r ∈ rs, GoodR r) (hk : KeepsAll d rs) : ¬ HasRound rs := by
  rintro ⟨t, ht, n, hn, s, x, w, hx⟩
  obtain ⟨a1, _, a3, a4⟩ := walk_kept hd hg hk w
  have := hd.pos s a1
  have : x.1 * d s < x.2 * d s := Int.mul_lt_mul_of_pos_right hx this
  omega

/-! ### tables: what leads from one index to another, the least ratio seen so far -/
abbrev Ky := Int × Int
abbrev Ent := Ky × (Int × Int)
abbrev Tab := List Ent
def tget (T : Tab) (k : Ky) : Option (Int × Int) := (T.find? fun y => decide (y.1 = k)).map (·.2)
def tput (T : Tab) (k : Ky) (v : Int × Int) : Tab := if (T.any fun y => decide (y.1 = k)) = true then T.map (fun y => if y.1 = k then (y.1, v) else y) else T ++ [(k, v)]
/-- an entry is taken in if there is none, or a greater one -/
def better (T : Tab) (x : Ent) : Bool := match tget T x.1 with
  | none => true
  | some y => decide (x.2.1 * y.2 < y.1 * x.2.2)
def relax (T : Tab) (x : Ent) : Tab := if better T x = true then tput T x.1 x.2 else T
def tabOf (L : List Ent) : Tab := L.foldl relax []
theorem tabOf_snoc (L : List Ent) (x : Ent) : tabOf (L ++ [x]) = relax (tabOf L) x := by
  unfold tabOf
  rw [List.foldl_append]
  rfl
theorem tget_none {T : Tab} {k : Ky} (h : tget T k = none) : ∀ y ∈ T, y.1 ≠ k := by
  intro y hy e
  unfold tget at h
  rw [Option.map_eq_none_iff, List.find?_eq_none] at h
  exact h y hy (decide_eq_true e)
theorem tget_some {T : Tab} {k : Ky} {v : Int × Int} (h : tget T k = some v) : (k, v) ∈ T := by
  unfold tget at h
  obtain ⟨y, hy, e⟩ := Option.map_eq_some_iff.mp h
  have h1 := List.mem_of_find?_eq_some hy
  have h2 : y.1 = k := of_decide_eq_true (List.find?_some (p := fun y : Ent => decide (y.1 = k)) hy)
  obtain ⟨a, b⟩ := y
  subst h2 e
  exact h1
def NoDup (T : Tab) : Prop := (T.map (·.1)).Nodup
theorem tget_mem {T : Tab} (hn : NoDup T) {y : Ent} (hy : y ∈ T) : tget T y.1 = some y.2 := by
  unfold NoDup at hn
  induction T with
  | nil => cases hy
  | cons a r ih =>
    rw [List.map_cons, List.nodup_cons] at hn
    unfold tget
    rw [List.find?_cons]
    rcases List.mem_cons.mp hy with e | hy
    · subst e
      rw [decide_eq_true (rfl : y.1 = y.1)]
      rfl
    · have ne : ¬ a.1 = y.1 := fun e => hn.1 (e ▸ List.mem_map_of_mem hy)
      rw [decide_eq_false ne]
      exact ih hn.2 hy
theorem tput_cases (T : Tab) (k : Ky) (v : Int × Int) : (tput T k v = T.map (fun y => if y.1 = k then (y.1, v) else y) ∧ ∃ y ∈ T, y.1 = k) ∨ (tput T k v = T ++ [(k, v)] ∧ ∀ y ∈ T, y.1 ≠ k) := by
  unfold tput
  by_cases h : (T.any fun y => decide (y.1 = k)) = true
  · rw [if_pos h]
    obtain ⟨y, hy, e⟩ := List.any_eq_true.mp h
    exact .inl ⟨rfl, y, hy, of_decide_eq_true e⟩
  · rw [if_neg h]
    refine .inr ⟨rfl, fun y hy e => h (List.any_eq_true.mpr ⟨y, hy, decide_eq_true e⟩)⟩
theorem map_put_keys (T : Tab) (k : Ky) (v : Int × Int) : (T.map (fun y => if y.1 = k then (y.1, v) else y)).map (·.1) = T.map (·.1) := by
  rw [List.map_map]
  refine List.map_congr_left fun y _ => ?_
  show (if y.1 = k then (y.1, v) else y).1 = y.1
  split <;> rfl
theorem nodup_put {T : Tab} (k : Ky) (v : Int × Int) (h : NoDup T) : NoDup (tput T k v) := by
  unfold NoDup at *
  rcases tput_cases T k v with ⟨e, _⟩ | ⟨e, hk⟩
  · rw [e, map_put_keys]
    exact h
  · rw [e, List.map_append, List.nodup_append]
    refine ⟨h, by simp, fun a ha b hb => ?_⟩
    obtain ⟨y, hy, rfl⟩ := List.mem_map.mp ha
    rw [List.mem_singleton.mp hb]
    exact hk y hy
theorem mem_put {T : Tab} {k : Ky} {v : Int × Int} {y : Ent} (h : y ∈ tput T k v) : y = (k, v) ∨ (y ∈ T ∧ y.1 ≠ k) := by
  rcases tput_cases T k v with ⟨e, _⟩ | ⟨e, hk⟩
  · rw [e] at h
    obtain ⟨z, hz, ez⟩ := List.mem_map.mp h
    by_cases q : z.1 = k
    · rw [if_pos q] at ez
      left
      rw [← ez, q]
    · rw [if_neg q] at ez
      subst ez
      exact .inr ⟨hz, q⟩
  · rw [e] at h
    rcases List.mem_append.mp h with h | h
    · exact .inr ⟨h, hk y h⟩
    · exact .inl (List.mem_singleton.mp h)
theorem put_mem (T : Tab) (k : Ky) (v : Int × Int) : (k, v) ∈ tput T k v := by
  rcases tput_cases T k v with ⟨e, y, hy, ey⟩ | ⟨e, _⟩
  · rw [e]
    exact List.mem_map.mpr ⟨y, hy, by rw [if_pos ey, ey]⟩
  · rw [e]
    exact List.mem_append_right _ (List.mem_singleton.mpr rfl)
theorem put_old {T : Tab} {k : Ky} {v : Int × Int} {y : Ent} (h : y ∈ T) (hk : y.1 ≠ k) : y ∈ tput T k v := by
  rcases tput_cases T k v with ⟨e, _⟩ | ⟨e, _⟩
  · rw [e]
    exact List.mem_map.mpr ⟨y, h, if_neg hk⟩
  · rw [e]
    exact List.mem_append_left _ h
/-- T holds the least of L at each key -/
structure MinOf (L : List Ent) (T : Tab) : Prop where
  nd : NoDup T
  of : ∀ y ∈ T, y ∈ L
  le : ∀ x ∈ L, ∃ y ∈ T, y.1 = x.1 ∧ Fle y.2 x.2
theorem MinOf.relax {L : List Ent} {T : Tab} {x : Ent} (h : MinOf L T) (hL : ∀ y ∈ L, Fpos y.2) (hx : Fpos x.2) : MinOf (L ++ [x]) (relax T x) := by
  unfold Ds.relax better
  cases e : tget T x.1 with
  | none =>
    have hk := tget_none e
    show MinOf (L ++ [x]) (tput T x.1 x.2)
    refine ⟨nodup_put _ _ h.nd, fun y hy => ?_, fun z hz => ?_⟩
    · rcases mem_put hy with rfl | ⟨hy, _⟩
      · exact List.mem_append_right _ (List.mem_singleton.mpr rfl)
      · exact List.mem_append_left _ (h.of y hy)
    · rcases List.mem_append.mp hz with hz | hz
      · obtain ⟨y, hy, e1, e2⟩ := h.le z hz
        exact ⟨y, put_old hy (hk y hy), e1, e2⟩
      · rw [List.mem_singleton.mp hz]
        exact ⟨_, put_mem T x.1 x.2, rfl, Fle.rfl⟩
  | some o =>
    have ho := tget_some e
    show MinOf (L ++ [x]) (if decide (x.2.1 * o.2 < o.1 * x.2.2) = true then tput T x.1 x.2 else T)
    by_cases hlt : x.2.1 * o.2 < o.1 * x.2.2
    · rw [if_pos (decide_eq_true hlt)]
      refine ⟨nodup_put _ _ h.nd, fun y hy => ?_, fun z hz => ?_⟩
      · rcases mem_put hy with rfl | ⟨hy, _⟩
        · exact List.mem_append_right _ (List.mem_singleton.mpr rfl)
        · exact List.mem_append_left _ (h.of y hy)
      · rcases List.mem_append.mp hz with hz | hz
        · obtain ⟨y, hy, e1, e2⟩ := h.le z hz
          by_cases q : y.1 = x.1
          · have ey : y.2 = o := by
              have a := tget_mem h.nd hy
              rw [q, e] at a
              exact (Option.some.inj a).symm
            refine ⟨_, put_mem T x.1 x.2, q.symm.trans e1, ?_⟩
            have hy2 := hL y (h.of y hy)
            refine Fle.trans hx hy2 (hL z hz) ?_ e2
            rw [ey]
            exact Int.le_of_lt hlt
          · exact ⟨y, put_old hy q, e1, e2⟩
        · rw [List.mem_singleton.mp hz]
          exact ⟨_, put_mem T x.1 x.2, rfl, Fle.rfl⟩
    · rw [if_neg (by rw [decide_eq_true_eq]; exact hlt)]
      refine ⟨h.nd, fun y hy => List.mem_append_left _ (h.of y hy), fun z hz => ?_⟩
      rcases List.mem_append.mp hz with hz | hz
      · exact h.le z hz
      · rw [List.mem_singleton.mp hz]
        refine ⟨_, ho, rfl, ?_⟩
        unfold Fle
        show o.1 * x.2.2 ≤ x.2.1 * o.2
        omega
theorem minOf_fold : ∀ (L P : List Ent) (T : Tab), MinOf P T → (∀ y ∈ P ++ L, Fpos y.2) → MinOf (P ++ L) (L.foldl Ds.relax T)
  | [], P, T, h, _ => by
    rw [List.append_nil]
    exact h
  | x :: L, P, T, h, hp => by
    have e : P ++ x :: L = (P ++ [x]) ++ L := by rw [List.append_assoc]; rfl
    rw [e] at hp ⊢
    exact minOf_fold L (P ++ [x]) (Ds.relax T x) (h.relax (fun y hy => hp y (List.mem_append_left _ (List.mem_append_left _ hy))) (hp x (List.mem_append_left _ (List.mem_append_right _ (List.mem_singleton.mpr rfl))))) hp
theorem minOf_tab (L : List Ent) (h : ∀ y ∈ L, Fpos y.2) : MinOf L (tabOf L) :=
  minOf_fold L [] [] ⟨List.nodup_nil, fun y hy => (nomatch hy), fun x hx => (nomatch hx)⟩ h

/-! ### the rows: the least walks with one condition, two, and so on -/
def entOf (c : Cond) : Ent := ((c.1, c.2.1), (c.2.2.1, c.2.2.2))
def stepsT (C : List Cond) : Tab := tabOf (C.map entOf)
def joinE (w s : Ent) : Ent := ((w.1.1, s.1.2), Fmul w.2 s.2)
def joins (S : Tab) (w : Ent) : List Ent := (S.filter fun s => decide (s.1.1 = w.1.2)).map (joinE w)
def longerT (W S : Tab) : Tab := tabOf (W.flatMap (joins S))
def rowT (S : Tab) : Nat → Tab
  | 0 => S
  | n + 1 => longerT (rowT S n) S
def hasR (T : Tab) : Prop := ∃ y ∈ T, y.1.1 = y.1.2 ∧ y.2.1 < y.2.2
/-- what a row is worth -/
structure RowOk (C : List Cond) (n : Nat) (T : Tab) : Prop where
  nd : NoDup T
  of : ∀ y ∈ T, Wlk C n y.1.1 y.1.2 y.2
  le : ∀ s e x, Wlk C n s e x → ∃ y ∈ T, y.1 = (s, e) ∧ Fle y.2 x
theorem wlk_pos {C : List Cond} (hC : ∀ c ∈ C, 0 < c.2.2.1 ∧ 0 < c.2.2.2) : ∀ {n : Nat} {s e : Int} {x : Int × Int}, Wlk C n s e x → Fpos x
  | 0, _, _, _, w => hC _ w
  | _ + 1, _, _, _, ⟨m, y, z, w, hz, e⟩ => by
    rw [e]
    exact (wlk_pos hC w).mul (hC _ hz)
theorem steps_ok {C : List Cond} (hC : ∀ c ∈ C, 0 < c.2.2.1 ∧ 0 < c.2.2.2) : RowOk C 0 (stepsT C) := by
  have hp : ∀ y ∈ C.map entOf, Fpos y.2 := fun y hy => by
    obtain ⟨c, hc, rfl⟩ := List.mem_map.mp hy
    exact hC c hc
  have m := minOf_tab _ hp
  refine ⟨m.nd, fun y hy => ?_, fun s e x w => ?_⟩
  · obtain ⟨c, hc, ec⟩ := List.mem_map.mp (m.of y hy)
    subst ec
    exact hc
  · obtain ⟨y, hy, e1, e2⟩ := m.le (entOf (s, e, x.1, x.2)) (List.mem_map_of_mem (f := entOf) w)
    exact ⟨y, hy, e1, e2⟩
theorem longer_ok {C : List Cond} (hC : ∀ c ∈ C, 0 < c.2.2.1 ∧ 0 < c.2.2.2) {n : Nat} {W S : Tab} (hW : RowOk C n W) (hS : RowOk C 0 S) : RowOk C (n + 1) (longerT W S) := by
  have mem : ∀ y, y ∈ W.flatMap (joins S) ↔ ∃ w ∈ W, ∃ s ∈ S, s.1.1 = w.1.2 ∧ y = joinE w s := by
    intro y
    unfold joins
    simp only [List.mem_flatMap, List.mem_map, List.mem_filter, decide_eq_true_eq]
    constructor
    · rintro ⟨w, hw, s, ⟨hs, e⟩, rfl⟩
      exact ⟨w, hw, s, hs, e, rfl⟩
    · rintro ⟨w, hw, s, hs, e, rfl⟩
      exact ⟨w, hw, s, ⟨hs, e⟩, rfl⟩
  have hp : ∀ y ∈ W.flatMap (joins S), Fpos y.2 := fun y hy => by
    obtain ⟨w, hw, s, hs, e, rfl⟩ := (mem y).mp hy
    exact (wlk_pos hC (hW.of w hw)).mul (wlk_pos hC (hS.of s hs))
  have m := minOf_tab _ hp
  refine ⟨m.nd, fun y hy => ?_, fun s e x wk => ?_⟩
  · obtain ⟨w, hw, s, hs, e, rfl⟩ := (mem y).mp (m.of y hy)
    have q := hS.of s hs
    rw [e] at q
    exact ⟨w.1.2, w.2, s.2, hW.of w hw, q, rfl⟩
  · obtain ⟨mid, u, v, wu, wv, ex⟩ := wk
    obtain ⟨w, hw, e1, l1⟩ := hW.le s mid u wu
    obtain ⟨t, ht, e2, l2⟩ := hS.le mid e v wv
    obtain ⟨y, hy, e3, l3⟩ := m.le (joinE w t) ((mem _).mpr ⟨w, hw, t, ht, by rw [e1, e2], rfl⟩)
    refine ⟨y, hy, ?_, ?_⟩
    · rw [e3]
      show (w.1.1, t.1.2) = (s, e)
      rw [e1, e2]
    · have pw := wlk_pos hC (hW.of w hw)
      have pt := wlk_pos hC (hS.of t ht)
      have pu := wlk_pos hC wu
      have pv : Fpos v := hC _ wv
      rw [ex]
      exact Fle.trans (hp y (m.of y hy)) (pw.mul pt) (pu.mul pv) l3 (Fle.mul pw pu pt pv l1 l2)
theorem row_ok {C : List Cond} (hC : ∀ c ∈ C, 0 < c.2.2.1 ∧ 0 < c.2.2.2) : ∀ n, RowOk C n (rowT (stepsT C) n)
  | 0 => steps_ok hC
  | n + 1 => longer_ok hC (row_ok hC n) (steps_ok hC)
theorem row_round {C : List Cond} (hC : ∀ c ∈ C, 0 < c.2.2.1 ∧ 0 < c.2.2.2) {n : Nat} {T : Tab} (h : RowOk C n T) : hasR T ↔ ∃ s x, Wlk C n s s x ∧ x.1 < x.2 := by
  constructor
  · rintro ⟨y, hy, e, hl⟩
    have w := h.of y hy
    rw [← e] at w
    exact ⟨_, _, w, hl⟩
  · rintro ⟨s, x, w, hl⟩
    obtain ⟨y, hy, e, l⟩ := h.le s s x w
    refine ⟨y, hy, by rw [e], ?_⟩
    have py := wlk_pos hC (h.of y hy)
    have px := wlk_pos hC w
    unfold Fle at l
    have a : y.2.1 * x.1 < y.2.1 * x.2 := Int.mul_lt_mul_of_pos_left hl py.1
    have b : x.1 * y.2.2 = y.2.2 * x.1 := Int.mul_comm _ _
    have c : y.2.1 * x.1 < y.2.2 * x.1 := by omega
    exact Int.lt_of_mul_lt_mul_right c (Int.le_of_lt px.1)
theorem all_pos {rs : List Res} (hg : ∀ r ∈ rs, GoodR r) {t : Nat} : ∀ c ∈ allC rs t, 0 < c.2.2.1 ∧ 0 < c.2.2.2 := fun c hc => by
  rcases List.mem_append.mp hc with hc | hc
  · have ok := seen_ok hg hc
    exact ⟨ok.p0, ok.q0⟩
  · obtain ⟨k, hk, rfl⟩ := mem_ups.mp hc
    exact ⟨(by decide : (0 : Int) < 1), (by decide : (0 : Int) < 1)⟩
/-- the program's look at its rows tells whether there is a round -/
theorem rows_tell {rs : List Res} (hg : ∀ r ∈ rs, GoodR r) {t : Nat} (ht : IsTop (seenL rs) t) : (∃ n, n ≤ t ∧ hasR (rowT (stepsT (allC rs t)) n)) ↔ HasRound rs := by
  constructor
  · rintro ⟨n, hn, h⟩
    exact ⟨t, ht, n, hn, (row_round (all_pos hg) (row_ok (all_pos hg) n)).mp h⟩
  · rintro ⟨t', ht', n, hn, h⟩
    have e : t' = t := Nat.le_antisymm (ht'.mono ht fun _ z => z) (ht.mono ht' fun _ z => z)
    subst e
    exact ⟨n, hn, (row_round (all_pos hg) (row_ok (all_pos hg) n)).mpr h⟩
end Ds
/-! All seats of a house; seats given one by one keep the divisors. -/
namespace Ds
abbrev Row := List Int × Int
def stepRow (r : Row) : List Row := (List.range (r.2.toNat + 1)).map fun less : Nat => (r.1 ++ [r.2 - (less : Int)], (less : Int))
def seatRows (house : Int) : Nat → List Row
  | 0 => [([], house)]
  | n + 1 => (seatRows house n).flatMap stepRow
def allSeats (n : Nat) (house : Int) : List (List Int) := ((seatRows house n).filter fun r => decide (r.2 = 0)).map (·.1)
structure RowIs (house : Int) (n : Nat) (r : Row) : Prop where
  len : r.1.length = n
  nn : ∀ x ∈ r.1, 0 ≤ x
  left : 0 ≤ r.2
  sum : r.1.sum + r.2 = house
theorem sum_snoc (l : List Int) (x : Int) : (l ++ [x]).sum = l.sum + x := by
  induction l with
  | nil => simp
  | cons a l ih =>
    rw [List.cons_append, List.sum_cons, List.sum_cons, ih]
    omega
theorem sum_nn : ∀ {l : List Int}, (∀ x ∈ l, 0 ≤ x) → 0 ≤ l.sum
  | [], _ => Int.le_refl 0
  | a :: l, h => by
    have := sum_nn (l := l) fun x hx => h x (List.mem_cons_of_mem _ hx)
    have := h a List.mem_cons_self
    rw [List.sum_cons]
    omega
theorem le_sum : ∀ {l : List Int}, (∀ x ∈ l, 0 ≤ x) → ∀ x ∈ l, x ≤ l.sum
  | a :: l, h, x, hx => by
    have hl := sum_nn (l := l) fun x hx => h x (List.mem_cons_of_mem _ hx)
    have ha := h a List.mem_cons_self
    rw [List.sum_cons]
    rcases List.mem_cons.mp hx with e | hx
    · omega
    · have := le_sum (l := l) (fun x hx => h x (List.mem_cons_of_mem _ hx)) x hx
      omega
theorem rows_is {house : Int} (h : 0 ≤ house) : ∀ n, ∀ r ∈ seatRows house n, RowIs house n r
  | 0, r, hr => by
    rw [List.mem_singleton.mp hr]
    exact ⟨rfl, fun x hx => (nomatch hx), h, by simp⟩
  | n + 1, r, hr => by
    obtain ⟨q, hq, hr⟩ := List.mem_flatMap.mp hr
    obtain ⟨k, hk, rfl⟩ := List.mem_map.mp hr
    have ok := rows_is h n q hq
    have hk := List.mem_range.mp hk
    have l := ok.left
    refine ⟨by rw [List.length_append, ok.len]; rfl, fun x hx => ?_, Int.natCast_nonneg k, ?_⟩
    · rcases List.mem_append.mp hx with hx | hx
      · exact ok.nn x hx
      · rw [List.mem_singleton.mp hx]
        omega
    · have := ok.sum
      show (q.1 ++ [q.2 - (k : Int)]).sum + (k : Int) = house
      rw [sum_snoc]
      omega
theorem rows_all {house : Int} : ∀ (n : Nat) (s : List Int), s.length = n → (∀ x ∈ s, 0 ≤ x) → s.sum ≤ house → (s, house - s.sum) ∈ seatRows house n
  | 0, s, hl, _, _ => by
    have : s = [] := List.length_eq_zero_iff.mp hl
    subst this
    simp [seatRows]
  | n + 1, s, hl, hn, hs => by
    obtain ⟨t, x, rfl⟩ : ∃ t x, s = t ++ [x] := by
      rcases List.eq_nil_or_concat s with e | ⟨t, x, e⟩
      · rw [e] at hl
        simp at hl
      · exact ⟨t, x, by simpa using e⟩
    rw [List.length_append] at hl
    have hl : t.length = n := by simpa using hl
    rw [sum_snoc] at hs ⊢
    have hx := hn x (List.mem_append_right _ (List.mem_singleton.mpr rfl))
    have ih := rows_all (house := house) n t hl (fun y hy => hn y (List.mem_append_left _ hy)) (by omega)
    refine List.mem_flatMap.mpr ⟨_, ih, List.mem_map.mpr ⟨(house - (t.sum + x)).toNat, ?_, ?_⟩⟩
    · rw [List.mem_range]
      show (house - (t.sum + x)).toNat < (house - t.sum).toNat + 1
      omega
    · show (t ++ [house - t.sum - (((house - (t.sum + x)).toNat : Nat) : Int)], (((house - (t.sum + x)).toNat : Nat) : Int)) = (t ++ [x], house - (t.sum + x))
      have e : (((house - (t.sum + x)).toNat : Nat) : Int) = house - (t.sum + x) := by omega
      rw [e, show house - t.sum - (house - (t.sum + x)) = x by omega]
theorem mem_allSeats {n : Nat} {house : Int} (h : 0 ≤ house) {s : List Int} : s ∈ allSeats n house ↔ s.length = n ∧ (∀ x ∈ s, 0 ≤ x) ∧ s.sum = house := by
  unfold allSeats
  constructor
  · intro hs
    obtain ⟨r, hr, rfl⟩ := List.mem_map.mp hs
    obtain ⟨hr, e⟩ := List.mem_filter.mp hr
    have ok := rows_is h n r hr
    have e : r.2 = 0 := of_decide_eq_true e
    have := ok.sum
    exact ⟨ok.len, ok.nn, by omega⟩
  · rintro ⟨hl, hn, hs⟩
    have m := rows_all (house := house) n s hl hn (by omega)
    exact List.mem_map.mpr ⟨_, List.mem_filter.mpr ⟨m, decide_eq_true (show house - s.sum = 0 by omega)⟩, rfl⟩
theorem stepRow_len {house : Int} {n : Nat} {r : Row} (h8 : house ≤ 8) (ok : RowIs house n r) : (stepRow r).length ≤ 9 := by
  unfold stepRow
  rw [List.length_map, List.length_range]
  have := ok.sum
  have := sum_nn ok.nn
  omega
theorem flat_le {α β : Type} {f : α → List β} {m : Nat} : ∀ (l : List α), (∀ x ∈ l, (f x).length ≤ m) → (l.flatMap f).length ≤ m * l.length
  | [], _ => by simp
  | x :: l, h => by
    have a := flat_le (f := f) (m := m) l fun y hy => h y (List.mem_cons_of_mem _ hy)
    have b := h x List.mem_cons_self
    rw [List.flatMap_cons, List.length_append, List.length_cons, Nat.mul_succ]
    omega
theorem rows_len {house : Int} (h : 0 ≤ house) (h8 : house ≤ 8) : ∀ n, (seatRows house n).length ≤ 9 ^ n
  | 0 => by simp [seatRows]
  | n + 1 => by
    have a := flat_le (f := stepRow) (m := 9) (seatRows house n) fun r hr => stepRow_len h8 (rows_is h n r hr)
    have b := rows_len h h8 n
    show ((seatRows house n).flatMap stepRow).length ≤ 9 ^ (n + 1)
    rw [Nat.pow_succ]
    omega

/-! ### what is possible -/
noncomputable def okB (rs : List Res) : Bool := @decide (¬ HasRound rs) (Classical.propDecidable _)
theorem okB_true {rs : List Res} : okB rs = true ↔ ¬ HasRound rs := @decide_eq_true_iff _ (Classical.propDecidable _)
theorem okB_false {rs : List Res} : okB rs = false ↔ HasRound rs := by
  constructor
  · intro h
    exact Classical.not_not.mp fun n => by rw [okB_true.mpr n] at h; cases h
  · intro h
    cases e : okB rs with
    | false => rfl
    | true => exact absurd h (okB_true.mp e)
noncomputable def posL (rs : List Res) (v : List Int) (house : Int) : List (List Int) := (allSeats v.length house).filter fun s => okB (rs ++ [(v, s)])
theorem mem_posL {rs : List Res} {v s : List Int} {house : Int} (h : 0 ≤ house) : s ∈ posL rs v house ↔ (s.length = v.length ∧ (∀ x ∈ s, 0 ≤ x) ∧ s.sum = house) ∧ ¬ HasRound (rs ++ [(v, s)]) := by
  unfold posL
  rw [List.mem_filter, mem_allSeats h, okB_true]
/-- more results: nothing more is possible, in the same order -/
theorem filter_sub {α : Type} {p q : α → Bool} (h : ∀ x, q x = true → p x = true) : ∀ l : List α, l.filter q = (l.filter p).filter q := by
  intro l
  rw [List.filter_filter]
  refine List.filter_congr fun x _ => ?_
  cases hq : q x with
  | false => rfl
  | true => rw [h x hq]; rfl
theorem pos_more {rs ms : List Res} {v : List Int} {house : Int} {s : List Int} (h : ∀ r ∈ rs, r ∈ ms) (hs : s ∈ posL ms v house) : s ∈ posL rs v house := by
  unfold posL at *
  obtain ⟨h1, h2⟩ := List.mem_filter.mp hs
  refine List.mem_filter.mpr ⟨h1, okB_true.mpr fun R => okB_true.mp h2 (round_mono (fun r hr => ?_) R)⟩
  rcases List.mem_append.mp hr with hr | hr
  · exact List.mem_append_left _ (h r hr)
  · exact List.mem_append_right _ hr
theorem pos_certain {rs ms : List Res} {v : List Int} {house : Int} {s : List Int} (h : ∀ r ∈ rs, r ∈ ms) (h1 : posL rs v house = [s]) (h2 : posL ms v house ≠ []) : posL ms v house = [s] := by
  have e : posL ms v house = (posL rs v house).filter fun s => okB (ms ++ [(v, s)]) := by
    unfold posL
    refine filter_sub (fun s hs => okB_true.mpr fun R => okB_true.mp hs (round_mono (fun r hr => ?_) R)) _
    rcases List.mem_append.mp hr with hr | hr
    · exact List.mem_append_left _ (h r hr)
    · exact List.mem_append_right _ hr
  rw [h1] at e
  rw [e] at h2 ⊢
  rw [List.filter_cons] at h2 ⊢
  split
  · rfl
  · rename_i c
    rw [if_neg c] at h2
    exact absurd rfl h2

/-! ### seats given one by one -/
/-- party i has no lesser quotient than any other -/
def Best (d : Int → Int) (v s : List Int) (i : Nat) : Prop := ∀ j : Nat, j < v.length → v.getD j 0 * d (s.getD i 0) ≤ v.getD i 0 * d (s.getD j 0)
theorem exists_best {d : Int → Int} (hd : Asc d) {v s : List Int} (hv : ∀ x ∈ v, 0 < x) (hs : ∀ x ∈ s, 0 ≤ x) : ∀ n, 0 < n → n ≤ v.length → ∃ i, i < n ∧ ∀ j : Nat, j < n → v.getD j 0 * d (s.getD i 0) ≤ v.getD i 0 * d (s.getD j 0)
  | 0, h, _ => absurd h (Nat.lt_irrefl 0)
  | 1, _, _ => ⟨0, by omega, fun j hj => by
      have : j = 0 := by omega
      subst this
      exact Int.le_refl _⟩
  | n + 2, _, hn => by
    have nn : ∀ i, 0 ≤ s.getD i 0 := fun i => by
      by_cases h : i < s.length
      · exact hs _ (getD_mem h)
      · rw [getD_out (by omega)]
        exact Int.le_refl 0
    have dp : ∀ i, 0 < d (s.getD i 0) := fun i => hd.pos _ (nn i)
    obtain ⟨i, hi, best⟩ := exists_best hd hv hs (n + 1) (by omega) (by omega)
    by_cases c : v.getD (n + 1) 0 * d (s.getD i 0) ≤ v.getD i 0 * d (s.getD (n + 1) 0)
    · refine ⟨i, by omega, fun j hj => ?_⟩
      by_cases e : j = n + 1
      · rw [e]
        exact c
      · exact best j (by omega)
    · have c : v.getD i 0 * d (s.getD (n + 1) 0) ≤ v.getD (n + 1) 0 * d (s.getD i 0) := by omega
      refine ⟨n + 1, by omega, fun j hj => ?_⟩
      by_cases e : j = n + 1
      · rw [e]
        exact Int.le_refl _
      · have b := best j (by omega)
        -- v j / d j ≤ v i / d i ≤ v m / d m
        have h1 : v.getD j 0 * d (s.getD i 0) * d (s.getD (n + 1) 0) ≤ v.getD i 0 * d (s.getD j 0) * d (s.getD (n + 1) 0) := Int.mul_le_mul_of_nonneg_right b (Int.le_of_lt (dp _))
        have h2 : v.getD i 0 * d (s.getD (n + 1) 0) * d (s.getD j 0) ≤ v.getD (n + 1) 0 * d (s.getD i 0) * d (s.getD j 0) := Int.mul_le_mul_of_nonneg_right c (Int.le_of_lt (dp _))
        refine cancel_le (dp i) ?_
        have e1 : v.getD j 0 * d (s.getD (n + 1) 0) * d (s.getD i 0) = v.getD j 0 * d (s.getD i 0) * d (s.getD (n + 1) 0) := by ac_rfl
        have e2 : v.getD (n + 1) 0 * d (s.getD j 0) * d (s.getD i 0) = v.getD (n + 1) 0 * d (s.getD i 0) * d (s.getD j 0) := by ac_rfl
        have e3 : v.getD i 0 * d (s.getD j 0) * d (s.getD (n + 1) 0) = v.getD i 0 * d (s.getD (n + 1) 0) * d (s.getD j 0) := by ac_rfl
        rw [e1, e2]
        omega
theorem getD_set {l : List Int} {i j : Nat} {x : Int} (h : i < l.length) : (l.set i x).getD j 0 = if j = i then x else l.getD j 0 := by
  by_cases e : j = i
  · rw [if_pos e, e]
    simp [List.getD, List.getElem?_set_self h]
  · rw [if_neg e]
    simp [List.getD, List.getElem?_set_ne (Ne.symm e)]
/-- the seats with one more for a best party keep the divisors -/
theorem keeps_step {d : Int → Int} (hd : Asc d) {v s : List Int} (hv : ∀ x ∈ v, 0 < x) (hs : ∀ x ∈ s, 0 ≤ x) (hl : s.length = v.length) (hk : Keeps d v s) {b : Nat} (hb : b < v.length) (best : Best d v s b) : Keeps d v (s.set b (s.getD b 0 + 1)) := by
  have nn : ∀ i, 0 ≤ s.getD i 0 := fun i => by
    by_cases h : i < s.length
    · exact hs _ (getD_mem h)
    · rw [getD_out (by omega)]
      exact Int.le_refl 0
  have hbs : b < s.length := by omega
  intro i j hi hj nj pos
  rw [getD_set hbs] at pos ⊢
  rw [getD_set hbs]
  by_cases ei : i = b
  · rw [if_pos ei]
    rw [if_neg (fun z => nj (z.trans ei.symm))]
    rw [show s.getD b 0 + 1 - 1 = s.getD b 0 by omega, ei]
    exact best j hj
  · rw [if_neg ei] at pos ⊢
    by_cases ej : j = b
    · rw [if_pos ej, ej]
      have h1 := hk i b hi hb (fun z => ei z.symm) pos
      have h2 := hd.up (s.getD b 0) (nn b)
      have vi : 0 ≤ v.getD i 0 := Int.le_of_lt (hv _ (getD_mem hi))
      exact Int.le_trans h1 (Int.mul_le_mul_of_nonneg_left h2 vi)
    · rw [if_neg ej]
      exact hk i j hi hj nj pos
theorem sum_set' : ∀ {l : List Int} {i : Nat} (x : Int), i < l.length → (l.set i x).sum = l.sum - l.getD i 0 + x
  | a :: l, 0, x, _ => by
    rw [List.set_cons_zero, List.sum_cons, List.sum_cons]
    show x + l.sum = a + l.sum - a + x
    omega
  | a :: l, i + 1, x, h => by
    rw [List.set_cons_succ, List.sum_cons, List.sum_cons, sum_set' x (by simpa using h)]
    show a + (l.sum - l.getD i 0 + x) = a + l.sum - l.getD i 0 + x
    omega
theorem keeps_zero {d : Int → Int} {v s : List Int} (h : ∀ x ∈ s, x = 0) : Keeps d v s := by
  intro i j hi hj nj pos
  by_cases c : i < s.length
  · rw [h _ (getD_mem c)] at pos
    omega
  · rw [getD_out (by omega)] at pos
    omega
/-! ### divisors that are told by a tuple, and go on by 1 -/
def dV (D : List Int) (k : Int) : Int := if k < D.length then D.getD k.toNat 0 else D.getD (D.length - 1) 0 + k - D.length + 1
structure GoodD (D : List Int) : Prop where
  len1 : 2 ≤ D.length
  len5 : D.length ≤ 5
  one : ∀ x ∈ D, 1 ≤ x ∧ x ≤ 1000
  asc : ∀ i, i + 1 < D.length → D.getD i 0 ≤ D.getD (i + 1) 0
theorem dV_asc {D : List Int} (g : GoodD D) : Asc (dV D) := by
  have pos : ∀ i, i < D.length → 0 < D.getD i 0 := fun i h => by
    have := g.one _ (getD_mem h)
    omega
  have l1 := g.len1
  refine ⟨fun k hk => ?_, fun k hk => ?_⟩
  · unfold dV
    split
    · exact pos _ (by omega)
    · have := pos (D.length - 1) (by omega)
      omega
  · unfold dV
    by_cases h1 : k + 1 < D.length
    · rw [if_pos h1, if_pos (by omega)]
      have := g.asc k.toNat (by omega)
      rw [show (k + 1).toNat = k.toNat + 1 by omega]
      exact this
    · rw [if_neg h1]
      by_cases h2 : k < D.length
      · rw [if_pos h2, show k.toNat = D.length - 1 by omega]
        omega
      · rw [if_neg h2]
        omega
end Ds
set_option maxHeartbeats 2000000
/-! Rules of this claim's own: sum of a tuple, enumerate of a tuple. -/
namespace Ds
open PySem PySem.Spec PyProof.Rows L2

/-! ### sum(t), t a tuple of ints -/
theorem preSum_val (ns : List Int) : ∀ n, n ≤ ns.length → preSum (fun i => ns.getD i 0) n = (ns.take n).sum
  | 0, _ => rfl
  | n + 1, h => by
    show preSum _ n + ns.getD n 0 = _
    rw [preSum_val ns n (by omega)]
    have g : ns[n]? = some (ns.getD n 0) := by simp [List.getD, List.getElem?_eq_getElem (show n < ns.length by omega)]
    rw [sum_take g]
def rSumT (K : PySem.W.Frag) : List V → Hp → VK → Prop := fun vs H Q => ∃ (a : Addr) (ns : List Int), vs = [V.ref a] ∧ SqT K H a (ns.map V.int) ∧ Q (.int ns.sum) H
theorem cr_sumT {X : Cx} (hc : X.calm = true) : CallR X (.builtin "sum") (rSumT X.K) := by
  intro pins s σ H vs us Q I r h
  obtain ⟨a, ns, rfl, hs, q⟩ := h
  obtain ⟨its, rv, ht, _⟩ := I.tuple hs
  rw [Vals.ref1 r]
  have hT : s.heap.IsTuple a its.toArray := ht
  have hlt : a < s.heap.objs.size := ht.lt
  have hl : its.length = ns.length := by rw [← rv.length, List.length_map]
  refine call_sum_walkG (wpAny_pyIter_tuple hT ?_)
  refine ⟨_, _, _, its.toArray.size, _, _, fun i => ns.getD i 0, rfl, Walks.tuple (A := X.A.in1) (I.ok.hd hc) s.heap.objs.size a (Nat.ne_of_lt hlt) its.toArray,
    ⟨⟨_, Heap.get?_push_size _ rfl, rfl, rfl⟩, hT.at fun o e => Heap.get?_push_of_some _ e⟩, fun b hb => ?_, fun i v hv => ?_, fun h' tk t' hk => ?_⟩
  · show b < (s.heap.push _).objs.size
    rw [Heap.size_push]
    rcases List.mem_cons.mp hb with e | hb
    · rw [e]
      exact Nat.lt_succ_self _
    · rw [List.mem_singleton.mp hb]
      exact Nat.lt_succ_of_lt hlt
  · have hi : its[i]? = some v := by simpa using hv
    have hil : i < ns.length := by
      have := (List.getElem?_eq_some_iff.mp hi).1
      omega
    have g : (ns.map V.int)[i]? = some (.int (ns.getD i 0)) := by
      rw [List.getElem?_map]
      simp [List.getD, List.getElem?_eq_getElem hil]
    obtain ⟨u, hu, ru⟩ := rv.get g
    rw [hi] at hu
    cases hu
    exact ru
  · have e : preSum (fun i => ns.getD i 0) its.toArray.size = ns.sum := by
      rw [List.size_toArray, hl, preSum_val ns _ (Nat.le_refl _), List.take_length]
    rw [e]
    refine ⟨.int ns.sum, H, I.kept fun b o eb => hk b o (fun hb => ?_) (Heap.get?_push_of_some _ eb), ⟨t', rfl⟩, q⟩
    rw [List.mem_singleton.mp hb] at eb
    exact absurd (Heap.lt_size eb) (Nat.lt_irrefl _)

/-! ### for i, x in enumerate(t), t a tuple -/
set_option maxHeartbeats 4000000 in
theorem meets_enum1 {v : Value} {o : Obj} {G : Heap → Prop} (B : Begins v o G) :
    Meets (Builtin.«enumerate.__new__» ⟨[.type "enumerate", v], []⟩) fun _ R s => G s.heap ∧
      R (.ok (.ret (.ref (s.heap.push o).objs.size))) { s with heap := (s.heap.push o).push { cls := .type "enumerate", data := .fields #[.none, .bool false, .ref s.heap.objs.size, rawInt 0, .none, .none] } } :=
  .of_wp fun prog w A R s h => by
    obtain ⟨hp, g, d, tk, os⟩ := s
    obtain ⟨hG, hR⟩ := h
    have hsub := sub_enumerate
    have it : ∀ {A' : Around} {E : Value → Shared → Prop} {Q : Value → Shared → Prop}, Q (.ref hp.objs.size) ⟨hp.push o, g, d, tk, os⟩ → wpAny (model prog w) A' (pyIter v) Q E ⟨hp, g, d, tk, os⟩ :=
      fun z => B.iter prog w _ _ ⟨hp, g, d, tk, os⟩ _ hG z
    wp_walk using it
    refine wpAny_stack_any fun st => wpAny_pure ?_
    split
    · rename_i c _ _ _ _ _
      cases (c == Value.type "enumerate") <;> (wp_walk using it; exact ⟨_, rfl, hR⟩)
    · wp_walk using it
      exact ⟨_, rfl, hR⟩
theorem call_enum1 {prog : Program} {w : World} {A : Around} {E : Value → Shared → Prop} {s : Shared} {v : Value} {o : Obj} {G : Heap → Prop} {Q : Value → Shared → Prop} (B : Begins v o G) (hG : G s.heap)
    (h : ∀ h', IsEnum h' (s.heap.objs.size + 1) s.heap.objs.size 0 .none → h'.get? s.heap.objs.size = some o → (∀ b u, s.heap.get? b = some u → h'.get? b = some u) → Q (.ref (s.heap.objs.size + 1)) { s with heap := h' }) :
    wpAny (model prog w) A (call (.type "enumerate") [v]) Q E s := by
  refine callType_new F.called_enumerate (by decide) (F.typeCall_enumerate_1 _) (F.newCall_enumerate_1 _) (fun obj => F.args_object_init_2 obj _) F.entry_enumerate_new (meets_enum1 B) ⟨hG, ?_⟩
  have z : (s.heap.push o).objs.size = s.heap.objs.size + 1 := Heap.size_push ..
  have he := Heap.get?_push_size (s.heap.push o) (o := { cls := .type "enumerate", data := .fields #[.none, .bool false, .ref s.heap.objs.size, rawInt 0, .none, .none] }) rfl
  rw [z] at he
  show _ ∧ _
  rw [z]
  exact ⟨⟨_, he, rfl⟩, h _ he (Heap.get?_push_of_some _ (Heap.get?_push_size _ B.free)) fun b u q => Heap.get?_push_of_some _ (Heap.get?_push_of_some _ q)⟩
/-- the tuple at a, each item in a new pair -/
def Itet (K : PySem.W.Frag) (a : Addr) : It where
  go := fun i H => ∃ (xs : List V) (x : V), SqT K H a xs ∧ xs[i]? = some x
  yld := fun i H v H' => ∃ T x, v = .ref T ∧ H T = none ∧ H' = upd H T (.tup [.int (i : Nat), x]) ∧ ∀ xs, SqT K H a xs → xs[i]? = some x
  stop := fun i H => ∃ xs : List V, SqT K H a xs ∧ xs.length = i
theorem turn_enumT {P : Program} {w : World} {K : PySem.W.Frag} {es : List Expr} {kk : Nat} {tp : Pos} (a e it : Addr) :
    Turn P w K (.Tuple es kk tp) (Itet K a) [e, it] e fun i h => (∃ old, IsEnum h e it ((i : Nat) : Int) old) ∧ h.IsTupleIter it a i ∧ e ≠ it where
  mem := List.mem_cons_self
  obj := fun i h ⟨⟨_, he⟩, ⟨o, ho, _, hd⟩, _⟩ b hb => by
    rcases List.mem_cons.mp hb with z | hb
    · rw [z]
      exact ⟨_, he, fun v q => nomatch q⟩
    · rw [List.mem_singleton.mp hb]
      exact ⟨o, ho, fun v q => by rw [hd] at q; cases q⟩
  keep := fun i h h' ⟨⟨old, he⟩, hi, ne⟩ k => ⟨⟨old, k e (by simp) _ he⟩, hi.at fun o q => k it (by simp) o q, ne⟩
  item := by
    intro X hP hw hK hc i pins s σ H E I hf ⟨⟨old, he⟩, hit, ne⟩ ⟨xs, x, hq, hx⟩
    subst hP hw hK
    obtain ⟨its, rv, p, _⟩ := I.tuple hq
    obtain ⟨u, hu, ru⟩ := rv.get hx
    have lte : e < s.heap.objs.size := Heap.lt_size he
    have lti : it < s.heap.objs.size := let ⟨_, q, _⟩ := hit; Heap.lt_size q
    have nae : e ≠ a := fun z => by
      obtain ⟨o, ho, hcl, _⟩ := p
      rw [← z, he] at ho
      cases ho
      exact absurd (Value.type.inj hcl) (by decide)
    have nai : a ≠ it := fun z => by
      obtain ⟨o, ho, hcl, _⟩ := p
      obtain ⟨o2, ho2, hcl2, _⟩ := hit
      rw [z, ho2] at ho
      cases ho
      rw [hcl] at hcl2
      exact absurd (Value.type.inj hcl2) (by decide)
    refine wpAny_pyNext_enum_itemD (Draws.tuple (A := X.A.in1) (I.ok.hd hc) it a nai its.toArray) he ⟨hit, p⟩ (by have := (List.getElem?_eq_some_iff.mp hu).1; simpa using this) ne (by simp [ne, nae]) fun y h' tk hy ho hst hT _ hk => ?_
    have ey : y = u := by
      have : its[i]? = some y := by simpa using hy
      rw [hu] at this
      exact (Option.some.inj this).symm
    subst ey
    refine ⟨_, rfl, wpAny_letOwnedTupleGo_enum (s := { s with heap := h', toks := tk + 1 }) ho fun h'' he' sb => ?_⟩
    have at1 : h''.get? s.heap.objs.size = some { cls := .type "tuple", data := .seq #[.int i tk, y] } := (sb.2 _ (Nat.ne_of_gt lte)).trans hT
    have I1 : Inv X pins σ (upd H s.heap.objs.size (.tup [.int (i : Nat), x])) { s with heap := h'', toks := tk + 1 } := by
      refine I.turnedNew (ch := [e, it]) (fun b ob hb q => ?_) hf (Nat.le_refl _) ⟨by show 2 ≤ sizeLine; decide, [.int i tk, y], .cons ⟨_, rfl⟩ (.cons ru .nil), ⟨_, at1, rfl, _, rfl⟩⟩
      have n1 : b ≠ e := fun z => hb (by simp [z])
      have n2 : b ≠ it := fun z => hb (by simp [z])
      exact (sb.2 b n1).trans (hk b ob n1 n2 q)
    refine ⟨.ref s.heap.objs.size, _, I1, rfl, ⟨_, x, rfl, I.hok.fresh (Nat.le_refl _), rfl, fun ys hy => by rw [I.tuple_inj hy hq]; exact hx⟩, ⟨⟨y, ?_⟩, hst.1.at fun o q => (sb.2 it (Ne.symm ne)).trans q, ne⟩, fun b hb => ?_⟩
    · rw [show ((i + 1 : Nat) : Int) = (i : Int) + 1 by omega]
      exact he'
    · have lb : b < s.heap.objs.size := by
        rcases List.mem_cons.mp hb with z | z
        · rw [z]
          exact lte
        · rw [List.mem_singleton.mp z]
          exact lti
      rw [upd_ne (Nat.ne_of_lt lb)]
      exact (hf b hb).1
  done := by
    intro X hP hw hK hc i pins s σ H E I hf ⟨⟨old, he⟩, hit, ne⟩ ⟨xs, hq, hx⟩
    subst hP hw hK
    obtain ⟨its, rv, p, _⟩ := I.tuple hq
    obtain ⟨f0, f1, f2, f3, f4, f5⟩ := hf it (by simp)
    have nai : a ≠ it := fun z => by
      obtain ⟨o, ho, hcl, _⟩ := p
      obtain ⟨o2, ho2, hcl2, _⟩ := hit
      rw [z, ho2] at ho
      cases ho
      rw [hcl] at hcl2
      exact absurd (Value.type.inj hcl2) (by decide)
    have ei : i = its.toArray.size := by
      rw [List.size_toArray, ← rv.length]
      exact hx.symm
    subst ei
    exact wpAny_pyNext_enum_endD (Draws.tuple (A := X.A.in1) (I.ok.hd hc) it a nai its.toArray) he ⟨hit, p⟩ fun h' eb => ⟨rfl, I.turned (t' := s.toks) (fun b o hb q => eb b o hb q) f0 f1 f3 f4 f5⟩
  self := fun A i s Q E ⟨⟨_, he⟩, _⟩ h => wpAny_pyIter_enum he h
def iEnumT (K : PySem.W.Frag) (ta : TA) : TI := fun σ H R => ta σ H fun vs H1 => ∃ a xs, vs = [.ref a] ∧ SqT K H1 a xs ∧ R (Itet K a) H1
theorem pi_enumT {X : Cx} {e : Expr} {ta : TA} {p pos tp : Pos} {es : List Expr} {kk : Nat} (hg : Gl X "enumerate") (hm : X.mg "enumerate" = none) (ha : PA X [e] ta) (hs : starEach [e] X.env = [(false, eval e X.env)] := by rfl) :
    PI X (.Tuple es kk tp) (.Call (.Name "enumerate" p) [e] [] pos) (iEnumT X.K ta) := by
  refine ⟨fun pins s σ H R I h => Call_ (ld_blt I hg hm boot_enumerate (PyProof.Rows.callWith_type1 (thn (ha.run pos pins s σ H _ I h) fun us s1 ⟨vs, H1, I1, r1, a, xs, ex, hq, q⟩ => ?_) hs rfl))⟩
  subst ex
  rw [Vals.ref1 r1]
  obtain ⟨its, rv, p', _⟩ := I1.tuple hq
  refine call_enum1 (begins_tuple a its.toArray) (show s1.heap.IsTuple a its.toArray from p') fun h' he hit hk => wpAny_pyIter_enum he ?_
  refine ⟨s1.heap.objs.size + 1, [s1.heap.objs.size + 1, s1.heap.objs.size], _, _, H1, rfl, I1.kept (t' := s1.toks) hk, turn_enumT a (s1.heap.objs.size + 1) s1.heap.objs.size, ⟨⟨.none, he⟩, ⟨_, hit, rfl, rfl⟩, Nat.succ_ne_self _⟩, fun b hb => ?_, q⟩
  have hle : s1.heap.objs.size ≤ b := by
    rcases List.mem_cons.mp hb with z | z
    · rw [z]
      exact Nat.le_succ _
    · rw [List.mem_singleton.mp z]
      exact Nat.le_refl _
  exact I1.fpOk hle (I1.hok.fresh hle)
theorem walk_enumT {K : PySem.W.Frag} {a : Addr} {xs : List V} : Walk (Itet K a) xs.length (fun H => SqT K H a xs) (YPair (fun i => some (.int (i : Nat))) (fun i => xs[i]?)) where
  goes := fun i _ hi q => ⟨xs, xs[i], q, by simp [hi]⟩
  stops := fun _ q => ⟨xs, q, rfl⟩
  yields := fun i H v H' _ q ⟨T, x, h1, h2, h3, h4⟩ => ⟨T, .int (i : Nat), x, h1, h2, h3, rfl, h4 xs q⟩
end Ds
set_option maxHeartbeats 2000000
/-! A rule of this claim's own: {x: e for x in it}, the keys tuples of ints and texts, the target one name, no if. -/
namespace Ds
open PySem PySem.Spec PyProof.Rows L2
section
variable {X : Cx}
/-- one store of the block: D[the tuple at b] = v -/
theorem dset_tup {pins : List (Addr × Obj)} {σ : L2.St} {H : Hp} {s : Shared} {E : Value → Shared → Prop} {D b : Addr} {kvs : List (List L2.Key × V)} {k : List L2.Key} {v : V} {r : Value} {Q : Unit → Shared → Prop} (hu : X.A.units < cLine)
    (I : Inv X pins σ H s) (hD : H D = some (.dT kvs)) (hb : H b = some (.tup (k.map kV))) (hz : kvs.length < sizeLine) (rv : RelV v r) (h : ∀ s', Inv X pins σ (upd H D (.dT (putK kvs k v))) s' → Q () s') :
    wpAny (model X.prog X.w) X.A (dictSet D (.ref b) r) Q E s := by
  obtain ⟨z, hd, xs, rel, dd⟩ := dt_of I.hok hD
  have zx : xs.length ≤ sizeLine := by rw [← Paired.length rel]; exact z
  have lp := length_putK kvs k v
  refine wpAny_dictSet_heap (hsz := zx) hu (key_of I.hok hb) dd fun h' dd' sb => h _ ?_
  obtain ⟨o, es, ep, ho, c2, c3, c4, _, c5⟩ := dd'
  refine d_write I (by rw [hD]; exact True.intro) sb ⟨o, ho⟩ ⟨by omega, hd, _, (rel.put k hb rv).keeps fun c ys ec => ?_, o, es, ep, ho, c2, c3, c4, c5⟩
  rw [upd_ne (ne_of ec hD (fun z => nomatch z))]
  exact ec
/-- the reading: D the new dict; W by the turn and a measure -/
def tDcT (wi : TI) (i0 : Nat) (tk tv : TE) : TE := fun σ H Q => wi σ H fun J H1 => ∀ D, H1 D = none → ∃ W : Nat → Nat → Hp → Prop, (∃ m, W 0 m (upd H1 D (.dT []))) ∧ ∀ i m H, W i m H →
  (J.stop i H ∧ Q (.ref D) H) ∨ (J.go i H ∧ ∃ Nx : Hp → Prop, (∀ H', Nx H' → ∃ m', m' < m ∧ W (i + 1) m' H') ∧ ∀ x H', J.yld i H x H' →
    tk ((wipe σ [i0]).set i0 (some x)) H' fun y H4 => tv ((wipe σ [i0]).set i0 (some x)) H4 fun z H5 => ∃ kvs k b, y = .ref b ∧ H5 b = some (.tup (k.map kV)) ∧ H5 D = some (.dT kvs) ∧ kvs.length < sizeLine ∧ Nx (upd H5 D (.dT (putK kvs k z))))
theorem wipe_set {σ : L2.St} {i : Nat} {v : Option V} : wipe ((wipe σ [i]).set i v) [i] = wipe σ [i] := by
  show (((σ.set i none).set i v)).set i none = σ.set i none
  rw [List.set_set, List.set_set]
theorem pe_dcT {kx vx iter : Expr} {scope : Scope} {x0 : Str} {i0 : Nat} {pos p0 : Pos} {wi : TI} {tk tv : TE} (hu : X.A.units < cLine) (hc : X.calm = true) (hN : X.N.Nodup) (hi : PI X (.Name x0 p0) iter wi) (ok : BlkOk X.N X.env.scope scope [(x0, i0)])
    (hg : ∀ (s : Shared) (H : Hp) (C : Addr) (cl : List (Str × Addr)) (fp : List Addr), PG (X.blk s H scope (compEnvC scope cl C X.env) fp) (.Name x0 p0) (gName i0))
    (hk : ∀ (s : Shared) (H : Hp) (C : Addr) (cl : List (Str × Addr)) (fp : List Addr), PE (X.blk s H scope (compEnvC scope cl C X.env) fp) kx tk)
    (he : ∀ (s : Shared) (H : Hp) (C : Addr) (cl : List (Str × Addr)) (fp : List Addr), PE (X.blk s H scope (compEnvC scope cl C X.env) fp) vx tv) (hs : ∀ x, foldedSetIterable iter X.env x = pure x := by intro _; rfl) :
    PE X (.DictComp kx vx [⟨.Name x0 p0, iter, [], 0⟩] scope pos) (tDcT wi i0 tk tv) := by
  refine ⟨fun pins s σ H Q I h => ?_⟩
  rw [arm_eval_DictComp]
  have cellsThere : ∀ y ∈ scope.names, y.2 = .free → ∃ c, X.env.cells.lookup y.1 = some c := fun y hy e => (ok.free y hy e).elim (fun k => I.ok.has _ (.inl k)) fun k => I.ok.has _ (.inr k)
  refine wpAny_comprehension_free (use := none) rfl hs (closure_ok cellsThere) ok.kind (fun y hy e => by rw [ok.uniq y hy, e]) (thn (hi.run pins s σ H _ I h) fun xv sa ha => thn ha fun itv sb hb => ?_)
  obtain ⟨it, fp, tn, J, H2, e, I2, T, st2, f2, q⟩ := hb
  subst e
  refine wpAny_newObj_type (newEnv_comp ?_)
  have newD : H2 sb.heap.objs.size = none := I2.hok.fresh (Nat.le_refl _)
  obtain ⟨W, ⟨m0, w0⟩, turn⟩ := q _ newD
  have I3 : Inv X pins σ (upd H2 sb.heap.objs.size (.dT [])) { sb with heap := sb.heap.push { cls := .type "dict", data := .dict #[] } } :=
    I2.laid (t' := sb.toks) (fun b o z => Heap.get?_push_of_some _ z) (Nat.le_refl _) (dt_empty sb.heap I2.big)
  generalize eD : sb.heap.objs.size = D at newD w0 turn I3 ⊢
  have fpLt : ∀ b ∈ fp, b < D := fun b hb => by
    obtain ⟨o, z, _⟩ := T.obj _ _ st2 b hb
    rw [← eD]
    exact Heap.lt_size z
  have push0 : ∀ b o, sb.heap.get? b = some o → (sb.heap.push { cls := .type "dict", data := .dict #[] }).get? b = some o := fun b o z => Heap.get?_push_of_some _ z
  have size3 : (sb.heap.push { cls := .type "dict", data := .dict #[] }).objs.size = D + 1 := by rw [Heap.size_push, eD]
  have st3 : tn 0 (sb.heap.push { cls := .type "dict", data := .dict #[] }) := T.keep _ _ _ st2 fun b _ o z => push0 b o z
  generalize e3 : ({ sb with heap := sb.heap.push { cls := .type "dict", data := .dict #[] } } : Shared) = s3 at I3 ⊢
  have h3 : s3.heap = sb.heap.push { cls := .type "dict", data := .dict #[] } := by rw [← e3]
  rw [← h3] at size3 st3
  have f3 : ∀ b ∈ fp, FpOk X pins (upd H2 D (.dT [])) b ∧ b < s3.heap.objs.size := fun b hb => by
    refine ⟨⟨?_, (f2 b hb).2⟩, by rw [size3]; exact Nat.lt_succ_of_lt (fpLt b hb)⟩
    rw [upd_ne (Nat.ne_of_lt (fpLt b hb))]
    exact (f2 b hb).1
  generalize eH : upd H2 D (.dT []) = H3 at I3 f3 w0
  have I4 := block_start I3 ok hN f3
  have rg := hg s3 H3 s3.heap.objs.size (cellsFrom (s3.heap.objs.size + 1) scope.names (cloFrom X.env.cells scope.names [])) fp
  have rk := hk s3 H3 s3.heap.objs.size (cellsFrom (s3.heap.objs.size + 1) scope.names (cloFrom X.env.cells scope.names [])) fp
  have re := he s3 H3 s3.heap.objs.size (cellsFrom (s3.heap.objs.size + 1) scope.names (cloFrom X.env.cells scope.names [])) fp
  show codeAny _ _ (.compStart _ 0 (.ref it) (.ref D) (compEnvC scope (cellsFrom (s3.heap.objs.size + 1) scope.names (cloFrom X.env.cells scope.names [])) s3.heap.objs.size X.env)) (compPost (model X.prog X.w) X.A X.xe none (EP X pins σ Q) (.ref D) s3.heap.objs.size) { s3 with heap := pushCells (s3.heap.push { cls := .type "dict", data := .dict #[] }) scope.names }
  generalize ec : compEnvC scope (cellsFrom (s3.heap.objs.size + 1) scope.names (cloFrom X.env.cells scope.names [])) s3.heap.objs.size X.env = ce at I4 rg rk re ⊢
  have locC : ce.locals = s3.heap.objs.size := by rw [← ec]; rfl
  have st4 : tn 0 (pushCells (s3.heap.push { cls := .type "dict", data := .dict #[] }) scope.names) := T.keep _ _ _ st3 fun b _ o z => pushCells_keeps _ _ _ _ (Heap.get?_push_of_some _ z)
  generalize e4 : ({ s3 with heap := pushCells (s3.heap.push { cls := .type "dict", data := .dict #[] }) scope.names } : Shared) = s4 at I4 ⊢
  have st4 : tn 0 s4.heap := by rw [← e4]; exact st4
  have own : ∀ {σ' : L2.St} {H' : Hp} {s' : Shared}, Inv (X.blk s3 H3 scope ce fp) [] σ' H' s' → (∀ b ∈ fp, H' b = none) → ∀ b ∈ fp, FpOk (X.blk s3 H3 scope ce fp) [] H' b := fun {σ' H' s'} I' hn b hb =>
    ⟨hn b hb, (I'.ok.exf b hb).1, I'.ok.exfs b hb, .inl hb, fun x c z => (I'.ok.exf b hb).2 x c z, fun p hp => by cases hp⟩
  have loop : codeAny (model X.prog X.w) X.A (.compLoop (.DictComp kx vx [⟨.Name x0 p0, iter, [], 0⟩] scope pos) 0 (.ref it) (.ref D) ce) (compPost (model X.prog X.w) X.A X.xe none (EP X pins σ Q) (.ref D) s3.heap.objs.size) s4 := by
    refine compLoop_anyD (fun n s' => ∃ i H', Inv (X.blk s3 H3 scope ce fp) [] (wipe σ [i0]) H' s' ∧ tn i s'.heap ∧ (∀ b ∈ fp, H' b = none) ∧ W i n H') ?_ m0 ⟨0, H3, I4, st4, fun b hb => (f3 b hb).1.1, w0⟩
    rintro n s5 ⟨i, H5, I5, st5, n5, w5⟩
    rcases turn i n H5 w5 with ⟨stop, qq⟩ | ⟨go, Nx, hNx, step⟩
    · refine thnF (T.done (X.blk s3 H3 scope ce fp) rfl rfl rfl hc i [] s5 _ H5 (fun _ _ => False) I5 (own I5 n5) st5 stop) fun r s6 ⟨hr, I6⟩ => ?_
      subst hr
      have back : Inv X pins σ H5 s6 := I3.call' (ch := fp) I6.os I6.base I6.hok I6.bare fun b hb => ⟨(f3 b hb).1.2.2.2.1, (f3 b hb).1.2.1, (f3 b hb).1.2.2.2.2.1, (f3 b hb).1.2.2.2.2.2⟩
      have freeC : H5 s3.heap.objs.size = none := by rw [← locC]; exact I6.free
      obtain ⟨m, hn, _⟩ := I6.loc
      have hn : s6.heap.Ns s3.heap.objs.size m := by rw [← locC]; exact hn
      refine ⟨m, hn, fun h'' same => ?_⟩
      obtain ⟨g0, g1, g2, g3, g4, g5⟩ := I3.fpOk (H' := H5) (Nat.le_refl _) freeC
      exact ⟨.ref D, H5, back.turned (t' := s6.toks) (fun b o hb z => (same.2 b hb).trans z) g0 g1 g3 g4 g5, rfl, qq⟩
    · refine thnF (T.item (X.blk s3 H3 scope ce fp) rfl rfl rfl hc i [] s5 _ H5 (fun _ _ => False) I5 (own I5 n5) st5 go) fun r s6 ⟨u, hr, h6⟩ => ?_
      subst hr
      refine thnF h6 fun _ s7 ⟨x, H7, I7, r7, y7, st7, n7⟩ => ?_
      have I8 := I7.pinned (own I7 n7) (T.obj _ _ st7)
      refine thnF (rg.run _ s7 _ H7 x u (fun σ' H' => σ' = (wipe σ [i0]).set i0 (some x) ∧ H' = H7) I8 r7 ⟨rfl, rfl⟩) fun _ s8 ⟨σ8, H8, I9, eσ, eH8⟩ => ?_
      subst eσ eH8
      refine wpAny_tests_nil ?_
      simp only [if_true]
      refine thnF (rk.run _ s8 _ H8 _ I9 (step x H8 y7)) fun yv s9 ⟨y, H9, I10, ry, q9⟩ => ?_
      refine thnF (re.run _ s9 _ H9 _ I10 q9) fun zv s10 ⟨z, H10, I11, rz, kvs, k, b, ey, hb, hD, hz, nx⟩ => ?_
      subst ey
      cases ry
      refine dset_tup (X := X.blk s3 H3 scope ce fp) hu I11 hD hb hz rz fun s11 I12 => ?_
      obtain ⟨m', lt, w'⟩ := hNx _ nx
      have pin : ∀ b ∈ fp, ∀ o, s7.heap.get? b = some o → s11.heap.get? b = some o ∧ (upd H10 D (.dT (putK kvs k z))) b = none := fun b hb o eo =>
        let p := I12.pin (b, o) (List.mem_append_right _ (List.mem_append_right _ (mem_pinsAt hb eo)))
        ⟨p.1, p.2.1⟩
      refine ⟨m', lt, i + 1, _, (I12.unpinned (pins := [])).weak (by rw [List.length_set]) (fun j v ej => ?_), T.keep _ _ _ st7 fun b hb o eo => (pin b hb o eo).1, fun b hb => ?_, w'⟩
      · by_cases ji : i0 = j
        · subst ji
          have hw := (wipe_some ej).2
          exact absurd (List.mem_singleton.mpr rfl) hw
        · rw [List.getElem?_set_ne ji]
          exact ej
      · obtain ⟨o, eo, _⟩ := T.obj _ _ st7 b hb
        exact (pin b hb o eo).2
  exact codeAny_compStart_dict loop (T.self X.A 0 _ _ _ st4 loop)
end
end Ds
set_option maxHeartbeats 2000000
/-! The text by places; a def of the top with its promise; heaps. -/
namespace Ds
open PySem PySem.Spec PyProof.Rows L2
/-! ### the text: the defs by their places in the top -/
def topS (i : Nat) : Stmt := PySem.Challenge.pw_dividedseats_k32_whole_what_methods_do_n.main.body.getD i (.Pass ⟨0, 0, 0, 0⟩)
abbrev s_is_whole_methods : Stmt := topS 6
abbrev s_is_method : Stmt := topS 8
abbrev s_divisor_at : Stmt := topS 9
abbrev s_divisors_to : Stmt := topS 10
abbrev s_check_method : Stmt := topS 11
abbrev s_is_votes : Stmt := topS 16
abbrev s_is_seats : Stmt := topS 17
abbrev s_is_wrong : Stmt := topS 18
abbrev s_first_wrong : Stmt := topS 19
abbrev s_valid_by : Stmt := topS 20
abbrev s_all_seats : Stmt := topS 21
abbrev s_check_votes : Stmt := topS 22
abbrev s_check_seats : Stmt := topS 23
abbrev s_is_valid : Stmt := topS 24
abbrev s_is_whole_fitting : Stmt := topS 27
abbrev s_is_result : Stmt := topS 29
abbrev s_are_results : Stmt := topS 30
abbrev s_check_results : Stmt := topS 31
abbrev s_seen_in : Stmt := topS 32
abbrev s_top_of : Stmt := topS 33
abbrev s_least_steps : Stmt := topS 34
abbrev s_longer : Stmt := topS 35
abbrev s_walks_of : Stmt := topS 36
abbrev s_round_in : Stmt := topS 37
abbrev s_common : Stmt := topS 38
abbrev s_whole_numbers : Stmt := topS 39
abbrev s_reduced : Stmt := topS 40
abbrev s_least_ratios : Stmt := topS 41
abbrev s_fit : Stmt := topS 42
abbrev s_behind : Stmt := topS 45
abbrev s_possible_shares : Stmt := topS 46
abbrev s_check_asked : Stmt := topS 47
abbrev s_possible : Stmt := topS 48
abbrev s_certain : Stmt := topS 49
abbrev s__law_stream : Stmt := topS 51
abbrev s__law_next : Stmt := topS 52
abbrev s__law_divisor : Stmt := topS 55
abbrev s__law_divisors : Stmt := topS 56
abbrev s__law_votes : Stmt := topS 57
abbrev s__law_seated : Stmt := topS 58
abbrev s__law_all_seats : Stmt := topS 69
abbrev s__law_fitting_results : Stmt := topS 70
abbrev s_law : Stmt := topS 71
/-! ### a def as it stands behind the top; its promise -/
/-- the module's name x holds the def of the statement st (its own name q) -/
structure Dfn (K : PySem.W.Frag) (mg : Str → Option Value) (x q : Str) (st : Stmt) : Prop where
  ex : ∃ (f : Addr) (fd : FuncData), FunD K q q (defArgs st) (defBody st) (defScope st) [] [] f fd ∧ mg x = some (.ref f)
/-- .. and it keeps the promise sp, by at most level k -/
structure Prm (P : Program) (w : World) (K : PySem.W.Frag) (mg : Str → Option Value) (base : Heap) (k : Nat) (x : Str) (sp : Sp) : Prop where
  ex : ∃ (f : Addr) (fd : FuncData) (ps : List Str), FnOk P w K mg base CX0 k f fd ps sp ∧ mg x = some (.ref f) ∧ PySem.W.keepIn K (.ref f) = true ∧ Binds K fd ps []
section
variable {P : Program} {w : World} {K : PySem.W.Frag} {mg : Str → Option Value} {base : Heap}
theorem Dfn.prm {x q : Str} {st : Stmt} {N ps : List Str} {k : Nat} {sp : Sp} (F : Dfn K mg x q st) (S : FnScope N ps (defScope st))
    (bd : ∀ (kV doc pm : Value) (an : Option Addr) (cdv ct : Value) (us : List Value), us.length = ps.length → bindArgs (PySem.W.fnOf q q (defArgs st) (defBody st) (defScope st) .none kV doc pm an cdv ct) ⟨us, []⟩ = pure (ps.zip us))
    (len : ∀ vs H Q E, sp vs H Q E → vs.length = ps.length)
    (hbody : ∀ (f : Addr) (cdv : Value) (A : Around) (outer : List Env) (s : Shared) (H : Hp) (vs : List V) (Q : VK) (E : XK), Room k (A.deeper (envOfC q (defScope st) s.heap.objs.size f cdv)) → sp vs H Q E →
      ∃ t, PSs (cxOf CX0 P w K mg base N q (defScope st) f cdv A outer s H E).nox (defBody st) t ∧ t { nx := fun _ H' => Q .non H', rt := Q } (start N vs) H) : Prm P w K mg base (k + 1) x sp := by
  obtain ⟨f, fd, F, g⟩ := F.ex
  refine ⟨f, fd, ps, F.ok S len fun cdv A outer s H vs Q E hr hsp => ?_, g, F.kp, F.bindsN bd⟩
  obtain ⟨t, h, r⟩ := hbody f cdv A outer s H vs Q E hr hsp
  exact ⟨t, h.nox, r⟩
end
section
variable {X : Cx} {k j : Nat} {x : Str} {sp : Sp} {e : Expr} {es : List Expr} {t : TA} {p pos : Pos}
/-- a call of such a def -/
theorem pe_prm (c : Prm X.prog X.w X.K X.mg X.base k x sp) (hr : Room j X.A) (hk : k ≤ j) (hg : Gl X x) (ha : PA X (e :: es) t)
    (he : starEach (e :: es) X.env = (false, eval e X.env) :: starEach es X.env := by rfl) (hpl : (backTo pos (starEach es X.env)).any (·.1) = false := by rfl) (hdb : (x == ("__debug__" : Str)) = false := by decide) :
    PE X (.Call (.Name x p) (e :: es) [] pos) (tCall sp [] E0 t) := by
  obtain ⟨f, fd, ps, F, g, kp, b⟩ := c.ex
  exact pe_call F (hr.mono hk) hg g kp b .nil pass0 ha (hdb := hdb) (he := he) (hpl := hpl)
/-- a module's constant int -/
theorem pe_gint {i : Int} (hg : Gl X x) (h : ∃ t, X.mg x = some (.int i t)) (hd : (x == ("__debug__" : Str)) = false := by decide) : PE X (.Name x pos) (tC (.int i)) := by
  obtain ⟨t, h⟩ := h
  exact pe_glob hg h ⟨t, rfl⟩ hd
end
/-- what the module's names are: the built-ins that nothing hides, the constants -/
structure Txt (mg : Str → Option Value) : Prop where
  len : mg "len" = none
  range : mg "range" = none
  isinstance : mg "isinstance" = none
  int : mg "int" = none
  bool : mg "bool" = none
  tuple : mg "tuple" = none
  all : mg "all" = none
  sum : mg "sum" = none
  max : mg "max" = none
  list : mg "list" = none
  abs : mg "abs" = none
  enumerate : mg "enumerate" = none
  mFirsts : ∃ t, mg "MOST_FIRSTS" = some (.int 6 t)
  mDivisor : ∃ t, mg "MOST_DIVISOR" = some (.int 1000 t)
  mParties : ∃ t, mg "MOST_PARTIES" = some (.int 5 t)
  mVotes : ∃ t, mg "MOST_VOTES" = some (.int 1000000 t)
  mSeats : ∃ t, mg "MOST_SEATS" = some (.int 8 t)
  mResults : ∃ t, mg "MOST_RESULTS" = some (.int 6 t)
  mHouse : ∃ t, mg "MOST_HOUSE" = some (.int 8 t)

/-! ### heaps -/
theorem same_new {H : Hp} {p : Addr} {o : HO} (h : H p = none) : Same H (upd H p o) := fun b x e => by
  rw [upd_ne (ne_of_none e h)]
  exact e
/-- an object that the base does not know is changed -/
theorem Same.put {H H' : Hp} {p : Addr} {o : HO} (s : Same H H') (h : H p = none) : Same H (upd H' p o) := fun b x e => by
  rw [upd_ne (ne_of_none e h)]
  exact s b x e
theorem size5 {n : Nat} (h : n ≤ 100000) : n ≤ sizeLine := Nat.le_trans h (by decide)
theorem size4 {n : Nat} (h : n < 100000) : n < sizeLine := Nat.lt_of_lt_of_le h (by decide)
/-- what holds of tuples alone -/
def TK (H H' : Hp) : Prop := ∀ a xs, H a = some (.tup xs) → H' a = some (.tup xs)
theorem TK.refl (H : Hp) : TK H H := fun _ _ h => h
theorem TK.trans {H H1 H2 : Hp} (a : TK H H1) (b : TK H1 H2) : TK H H2 := fun x o h => b x o (a x o h)
end Ds
namespace L2
theorem Same.tk {H H' : Hp} (s : Same H H') : Ds.TK H H' := fun a xs h => s a _ h
end L2
namespace Ds
open PySem PySem.Spec PyProof.Rows L2
/-- the object at p is no tuple: it may be replaced -/
theorem TK.put {H H' : Hp} {p : Addr} {o : HO} (s : TK H H') (h : ∀ xs, H' p ≠ some (.tup xs)) : TK H (upd H' p o) := fun b xs e => by
  have q := s b xs e
  rw [upd_ne (fun z => h xs (by rw [← z]; exact q))]
  exact q
abbrev tupI (ns : List Int) : HO := .tup (ns.map V.int)
/-- v is a tuple of these ints -/
def Ints (H : Hp) (v : V) (ns : List Int) : Prop := ∃ a, v = .ref a ∧ H a = some (tupI ns)
theorem Ints.tk {H H' : Hp} {v : V} {ns : List Int} (h : Ints H v ns) (s : TK H H') : Ints H' v ns := let ⟨a, e, q⟩ := h; ⟨a, e, s a _ q⟩
/-- .. a pair of votes and seats -/
def IsR (H : Hp) (v : V) (r : Res) : Prop := ∃ a x y, v = .ref a ∧ H a = some (.tup [x, y]) ∧ Ints H x r.1 ∧ Ints H y r.2
theorem IsR.tk {H H' : Hp} {v : V} {r : Res} (h : IsR H v r) (s : TK H H') : IsR H' v r := let ⟨a, x, y, e, q, h1, h2⟩ := h; ⟨a, x, y, e, s a _ q, h1.tk s, h2.tk s⟩
theorem paired_mono {α β : Type} {F G : α → β → Prop} {l : List α} {m : List β} (h : Paired F l m) (k : ∀ a b, F a b → G a b) : Paired G l m := Paired.mapP h k
theorem paired_snoc {α β : Type} {F : α → β → Prop} {l : List α} {m : List β} {a : α} {b : β} (h : Paired F l m) (r : F a b) : Paired F (l ++ [a]) (m ++ [b]) := Paired.snoc h r
theorem paired_get {α β : Type} {F : α → β → Prop} : ∀ {l : List α} {m : List β} {i : Nat} {a : α}, Paired F l m → l[i]? = some a → ∃ b, m[i]? = some b ∧ F a b
  | _, _, _, _, .nil, e => by simp at e
  | _, _, 0, _, .cons r _, e => by
    simp at e
    subst e
    exact ⟨_, rfl, r⟩
  | _, _, i + 1, _, .cons _ t, e => by
    obtain ⟨b, h1, h2⟩ := paired_get (i := i) t (by simpa using e)
    exact ⟨b, by simpa using h1, h2⟩
theorem paired_get' {α β : Type} {F : α → β → Prop} : ∀ {l : List α} {m : List β} {i : Nat} {b : β}, Paired F l m → m[i]? = some b → ∃ a, l[i]? = some a ∧ F a b
  | _, _, _, _, .nil, e => by simp at e
  | _, _, 0, _, .cons r _, e => by
    simp at e
    subst e
    exact ⟨_, rfl, r⟩
  | _, _, i + 1, _, .cons _ t, e => by
    obtain ⟨b, h1, h2⟩ := paired_get' (i := i) t (by simpa using e)
    exact ⟨b, by simpa using h1, h2⟩
theorem paired_app {α β : Type} {F : α → β → Prop} : ∀ {l l' : List α} {m m' : List β}, Paired F l m → Paired F l' m' → Paired F (l ++ l') (m ++ m')
  | _, _, _, _, .nil, s => s
  | _, _, _, _, .cons r t, s => .cons r (paired_app t s)
/-- .. results: a tuple of such pairs -/
def IsRs (H : Hp) (v : V) (rs : List Res) : Prop := ∃ a xs, v = .ref a ∧ H a = some (.tup xs) ∧ Paired (IsR H) xs rs
theorem IsRs.tk {H H' : Hp} {v : V} {rs : List Res} (h : IsRs H v rs) (s : TK H H') : IsRs H' v rs := let ⟨a, xs, e, q, p⟩ := h; ⟨a, xs, e, s a _ q, paired_mono p fun _ _ r => r.tk s⟩
theorem map_at {ns : List Int} {i : Nat} (h : i < ns.length) : (ns.map V.int)[i]? = some (.int (ns.getD i 0)) := by
  rw [List.getElem?_map, getD_of h]
  rfl
theorem at_int {ns : List Int} {z : Int} {i : Nat} (e : z = (i : Int)) (h : i < ns.length) : atI (ns.map V.int) z = some (.int (ns.getD i 0)) := by
  rw [e]
  exact atI_nat (map_at h)
theorem ss_of {n : Nat} (h : n ≤ 100000) : n ≤ sizeLine := size5 h
end Ds
set_option maxHeartbeats 2000000
namespace Ds
open PySem PySem.Spec PyProof.Rows L2
section
variable {P : Program} {w : World} {K : PySem.W.Frag} {mg : Str → Option Value} {base : Heap}
/-! ### common, reduced -/
def spCommon : Sp := fun vs H Q _ => ∃ a b : Int, vs = [.int a, .int b] ∧ 0 ≤ a ∧ 0 ≤ b ∧ Q (.int (Int.gcd a b)) H
theorem scCommon : FnScope ["one", "other"] ["one", "other"] (defScope s_common) := ⟨rfl, rfl, rfl, by decide +kernel, rfl, by decide +kernel, by decide +kernel⟩
theorem gcd_step {a b : Int} (ha : 0 ≤ a) (hb : 0 < b) : Int.gcd b (a % b) = Int.gcd a b := by
  obtain ⟨m, rfl⟩ := Int.eq_ofNat_of_zero_le ha
  obtain ⟨n, rfl⟩ := Int.eq_ofNat_of_zero_le (Int.le_of_lt hb)
  rw [← Int.natCast_emod, Int.gcd_natCast_natCast, Int.gcd_natCast_natCast, Nat.gcd_comm m n, Nat.gcd_rec n m, Nat.gcd_comm]
theorem ok_common (F : Dfn K mg "common" "common" s_common) : Prm P w K mg base 1 "common" spCommon := by
  refine F.prm scCommon (fun _ _ _ _ _ _ us hl => match us, hl with | [_, _], _ => rfl) (fun vs H Q E h => ?_) (fun f cdv A outer s H vs Q E hr h => ?_)
  · obtain ⟨a, b, rfl, _⟩ := h
    rfl
  · obtain ⟨a, b, rfl, ha, hb, q⟩ := h
    refine ⟨_, pss_cons (ps_while PassesOwn.never (pt_cmpR op_gt (pv 1) pe_int (nomark _))
        (pss_one (ps_par (i := 0) (j := 1) rfl scCommon.nd rfl rfl (by decide) rfl rfl (pa_cons (pv 1) (pa_cons (pe_op op_mod (pv 0) (pv 1)) pa_nil)) (by rfl))))
      (pss_one (ps_ret (pv 0))), ?_⟩
    refine while_by (fun σ H' => H' = H ∧ ∃ x y : Int, σ = [some (.int x), some (.int y)] ∧ 0 ≤ x ∧ 0 ≤ y ∧ Int.gcd x y = Int.gcd a b) (fun σ _ => match σ with
      | [_, some (.int y)] => y.toNat
      | _ => 0) ⟨rfl, a, b, rfl, ha, hb, rfl⟩ (fun σ H' ⟨eH, x, y, eσ, hx, hy, hg⟩ => ?_) (fun σ H' Q Q' k h => ?_)
    · subst eH eσ
      refine ⟨_, rfl, _, _, rfl, rfl, _, rfl, ite2 (fun hy0 => ?_) (fun hy0 => ?_)⟩
      · have hy0 : 0 < y := of_decide_eq_true hy0
        refine ⟨_, rfl, _, rfl, _, rfl, _, _, rfl, rfl, hy0, _, _, rfl, ⟨rfl, y, x % y, rfl, hy, Int.emod_nonneg _ (by omega), by rw [gcd_step hx hy0]; exact hg⟩, ?_⟩
        show (x % y).toNat < y.toNat
        have h1 := Int.emod_lt_of_pos x hy0
        have h2 := Int.emod_nonneg x (show y ≠ 0 by omega)
        omega
      · have hy0 : ¬ 0 < y := fun z => hy0 (decide_eq_true z)
        have e : y = 0 := by omega
        subst e
        refine ⟨_, rfl, ?_⟩
        have e2 : (Int.gcd a b : Int) = x := by
          rw [← hg, Int.gcd_zero_right]
          omega
        rw [e2] at q
        exact q
    · obtain ⟨v, e1, i, j, e2, e3, b, e4, h⟩ := h
      exact ⟨v, e1, i, j, e2, e3, b, e4, k _ _ h⟩

/-! ### bounds by powers of two -/
end
def Bd (n : Nat) (x : Int) : Prop := 0 < x ∧ x.natAbs < 2 ^ n
theorem Bd.mul {a b : Nat} {x y : Int} (h : Bd a x) (k : Bd b y) : Bd (a + b) (x * y) := ⟨Int.mul_pos h.1 k.1, wide_lt h.2 k.2⟩
theorem Bd.le {a : Nat} {x y : Int} (h : Bd a y) (h0 : 0 < x) (h1 : x ≤ y) : Bd a x := ⟨h0, wide_le (Int.le_of_lt h0) h1 h.2⟩
theorem Bd.mono {a b : Nat} {x : Int} (h : Bd a x) (k : a ≤ b) : Bd b x := ⟨h.1, Nat.lt_of_lt_of_le h.2 (Nat.pow_le_pow_right (by decide) k)⟩
theorem Bd.mulW {a b : Nat} {x y : Int} (h : Bd a x) (k : Bd b y) (ha : 0 < a) (hb : 0 < b) (hs : a + b ≤ 1000000) : CMulW x y := wide_mul h.2 k.2 ha hb hs
theorem Bd.divW {a : Nat} {x y : Int} (h : Bd a y) (ha : 0 < a) (hs : a ≤ 9000) : CDivW x y := wide_div h.1 h.2 ha hs
theorem Bd.one : Bd 1 1 := ⟨by decide, by decide⟩
theorem Bd.mil {x : Int} (h0 : 0 < x) (h1 : x ≤ 1000000) : Bd 20 x := ⟨h0, Nat.lt_of_le_of_lt (show x.natAbs ≤ 1000000 by omega) (by decide)⟩
theorem gcd_pos {a b : Int} (h : 0 < a) : 0 < (Int.gcd a b : Int) := Int.natCast_pos.mpr (Int.gcd_pos_of_ne_zero_left b (by omega))
theorem gcd_le {a b : Int} (h : 0 < a) : (Int.gcd a b : Int) ≤ a := Int.le_of_dvd h (Int.gcd_dvd_left a b)
theorem gcd_le' {a b : Int} (h : 0 < b) : (Int.gcd a b : Int) ≤ b := Int.le_of_dvd h (Int.gcd_dvd_right a b)
theorem div_pos {a g : Int} (ha : 0 < a) (hg : 0 < g) (h : g ≤ a) : 0 < a / g := Int.le_ediv_of_mul_le hg (by omega)
theorem div_le {a g : Int} (ha : 0 ≤ a) (hg : 0 < g) : a / g ≤ a := Int.ediv_le_self _ ha
/-- the least common multiple is not less than either -/
theorem lcm_ge {a b : Int} (ha : 0 < a) (hb : 0 < b) : a ≤ a * b / (Int.gcd a b : Int) ∧ b ≤ a * b / (Int.gcd a b : Int) := by
  have g0 := gcd_pos (b := b) ha
  refine ⟨Int.le_ediv_of_mul_le g0 (Int.mul_le_mul_of_nonneg_left (gcd_le' hb) (Int.le_of_lt ha)), Int.le_ediv_of_mul_le g0 ?_⟩
  rw [Int.mul_comm a b]
  exact Int.mul_le_mul_of_nonneg_left (gcd_le ha) (Int.le_of_lt hb)
section
variable {P : Program} {w : World} {K : PySem.W.Frag} {mg : Str → Option Value} {base : Heap}
/-- a pair p, q of positive numbers of at most n bits -/
def PQ (n : Nat) (H : Hp) (v : V) : Prop := ∃ a p q, v = .ref a ∧ H a = some (.tup [.int p, .int q]) ∧ Bd n p ∧ Bd n q
def spReduced : Sp := fun vs H Q _ => ∃ p q : Int, vs = [.int p, .int q] ∧ Bd 200 p ∧ Bd 200 q ∧ ∀ H' r, Same H H' → H r = none → PQ 200 H' (.ref r) → Q (.ref r) H'
theorem scReduced : FnScope ["p", "q", "least"] ["p", "q"] (defScope s_reduced) := ⟨rfl, rfl, rfl, by decide +kernel, rfl, by decide +kernel, by decide +kernel⟩
theorem ok_reduced (F : Dfn K mg "reduced" "reduced" s_reduced) (GC : Prm P w K mg base 1 "common" spCommon) : Prm P w K mg base 2 "reduced" spReduced := by
  refine F.prm scReduced (fun _ _ _ _ _ _ us hl => match us, hl with | [_, _], _ => rfl) (fun vs H Q E h => ?_) (fun f cdv A outer s H vs Q E hr h => ?_)
  · obtain ⟨a, b, rfl, _⟩ := h
    rfl
  · obtain ⟨p, q, rfl, hp, hq, k⟩ := h
    refine ⟨_, pss_cons (ps_set (i := 2) scReduced.nd rfl (.inl rfl) (pe_prm GC hr (by decide) (by rfl) (pa_cons (pv 0) (pa_cons (pv 1) pa_nil))))
      (pss_one (ps_ret (pe_tup (pa_cons (pe_op op_fdivW (pv 0) (pv 2)) (pa_cons (pe_op op_fdivW (pv 1) (pv 2)) pa_nil))))), ?_⟩
    have g0 := gcd_pos (b := q) hp.1
    have g1 := gcd_le (b := q) hp.1
    have g2 := gcd_le' (a := p) hq.1
    have gb : Bd 200 (Int.gcd p q : Int) := hp.le g0 g1
    refine ⟨_, rfl, _, rfl, p, q, rfl, Int.le_of_lt hp.1, Int.le_of_lt hq.1, _, rfl, _, rfl, _, _, rfl, rfl, gb.divW (by decide) (by decide), _, rfl, _, rfl, _, _, rfl, rfl, gb.divW (by decide) (by decide), by show 2 ≤ sizeLine; decide, fun r hr => ?_⟩
    exact k _ r (same_new hr) hr ⟨r, _, _, rfl, upd_same, hp.le (div_pos hp.1 g0 g1) (div_le (Int.le_of_lt hp.1) g0), hq.le (div_pos hq.1 g0 g2) (div_le (Int.le_of_lt hq.1) g0)⟩

/-! ### whole_numbers -/
def spWhole (K : PySem.W.Frag) : Sp := fun vs H Q _ => ∃ (L : Addr) (xs : List V), vs = [.ref L] ∧ H L = some (.lst xs) ∧ 0 < xs.length ∧ xs.length ≤ 9 ∧ (∀ x ∈ xs, PQ 200 H x) ∧ ∀ H' v, Same H H' → Q v H'
abbrev nWhole : List Str := ["ratios", "product", "p", "q", "numbers", "least", "number"]
abbrev g2 (K : PySem.W.Frag) (i j : Nat) : TG := gTup K 2 (gCons (gName i) (gCons (gName j) gNil))
theorem scWhole : FnScope nWhole ["ratios"] (defScope s_whole_numbers) := ⟨rfl, rfl, rfl, by decide +kernel, rfl, by decide +kernel, by decide +kernel⟩
theorem ok_whole (T : Txt mg) (F : Dfn K mg "whole_numbers" "whole_numbers" s_whole_numbers) (GC : Prm P w K mg base 1 "common" spCommon) : Prm P w K mg base 2 "whole_numbers" (spWhole K) := by
  refine F.prm scWhole (fun _ _ _ _ _ _ us hl => match us, hl with | [_], _ => rfl) (fun vs H Q E h => ?_) (fun f cdv A outer s H vs Q E hr h => ?_)
  · obtain ⟨a, b, rfl, _⟩ := h
    rfl
  · obtain ⟨L, xs, rfl, hL, h0, h9, hx, k⟩ := h
    have nd := scWhole.nd
    refine ⟨_, pss_cons (ps_set (i := 1) nd rfl (.inr rfl) pe_int)
      (pss_cons (ps_for PassesOwn.never rfl (pi_list (pv 0)) (pg_tup rfl (pgs_cons (pg_name (i := 2) nd rfl (.inl rfl)) (pgs_cons (pg_name (i := 3) nd rfl (.inl rfl)) pgs_nil)))
        (pss_one (ps_set (i := 1) nd rfl (.inr rfl) (pe_op op_fdivW (pe_op op_mulW (pv 1) (pv 3)) (pe_prm GC hr (by decide) (by rfl) (pa_cons (pv 1) (pa_cons (pv 3) pa_nil)))))))
      (pss_cons (ps_setLc (i := 4) (own := [("p", 2), ("q", 3)]) (g := g2 K 2 3) rfl nd rfl rfl (sw_true rfl rfl rfl (by decide +kernel)) (pi_list (pv 0)) (blkOk_by (N := nWhole) (sc := defScope s_whole_numbers) (by decide +kernel))
        (fun _ _ _ _ _ => pg_tup rfl (pgs_cons (pg_name (i := 2) nd rfl (.inl rfl)) (pgs_cons (pg_name (i := 3) nd rfl (.inl rfl)) pgs_nil))) (fun _ _ _ _ _ => pts_nil)
        (fun _ _ _ _ _ => pe_op op_mulW (pv 2) (pe_op op_fdivW (pv 1) (pv 3))))
      (pss_cons (ps_set (i := 5) nd rfl (.inr rfl) pe_int)
      (pss_cons (ps_for PassesOwn.never rfl (pi_list (pv 4)) (pg_name (i := 6) nd rfl (.inl rfl))
        (pss_one (ps_set (i := 5) nd rfl (.inr rfl) (pe_prm GC hr (by decide) (by rfl) (pa_cons (pv 6) (pa_cons (pv 5) pa_nil))))))
      (pss_one (ps_ret (pe_callTy call_tuple_of (by rfl) T.tuple (by decide +kernel) (pa_cons (pe_lc (own := [("number", 6)]) (g := gName 6) rfl nd (pi_list (pv 4)) (blkOk_by (N := nWhole) (sc := defScope s_whole_numbers) (by decide +kernel))
        (fun _ _ _ _ _ => pg_name (i := 6) nd rfl (.inl rfl)) (fun _ _ _ _ _ => pts_nil) (fun _ _ _ _ _ => pe_op op_fdivW (pv 6) (pv 5))) pa_nil)))))))), ?_⟩
    have hS : SqL K H L xs := SqL.of hL
    -- the first loop: product is not less than any q
    refine ⟨_, rfl, L, rfl, ⟨_, hS⟩, for_list (K := K) (a := L) (xs := xs) (fun i σ H' => H = H' ∧ ∃ (pr : Int) (s2 s3 : Option V), σ = [some (.ref L), some (.int pr), s2, s3, none, none, none] ∧ Bd (200 * i + 1) pr ∧
        ∀ j, j < i → ∀ a p q, xs[j]? = some (.ref a) → H a = some (.tup [.int p, .int q]) → q ≤ pr)
      ⟨rfl, 1, none, none, rfl, Bd.one, fun j hj => absurd hj (Nat.not_lt_zero _)⟩ (fun i σ H' _ ⟨e, _⟩ => by rw [← e]; exact hS) (fun i x σ H' hi ⟨eH, pr, s2, s3, eσ, hb, hle⟩ => ?_) (fun σ H' ⟨eH, pr, s2, s3, eσ, hb, hle⟩ => ?_)⟩
    · subst eH eσ
      have hi9 : i < 9 := by
        have := (List.getElem?_eq_some_iff.mp hi).1
        omega
      obtain ⟨a, p, q, rfl, ha, bp, bq⟩ := hx x (List.mem_of_getElem? hi)
      have g0 := gcd_pos (b := q) hb.1
      have gb : Bd (200 * i + 1) (Int.gcd pr q : Int) := hb.le g0 (gcd_le hb.1)
      have bm := hb.mul bq
      have lg := lcm_ge hb.1 bq.1
      have pp : 0 < pr * q / (Int.gcd pr q : Int) := Int.lt_of_lt_of_le hb.1 lg.1
      refine ⟨a, _, rfl, SqT.of ha, rfl, _, _, rfl, _, _, rfl, rfl, ?_⟩
      refine ⟨_, rfl, _, rfl, _, _, rfl, rfl, hb.mulW bq (by omega) (by decide) (by omega), _, rfl, _, rfl, pr, q, rfl, Int.le_of_lt hb.1, Int.le_of_lt bq.1, _, _, rfl, rfl, gb.divW (by omega) (by omega), rfl, _, _, _, rfl,
        (bm.le pp (div_le (Int.le_of_lt bm.1) g0)).mono (by omega), fun j hj b p' q' hj' hb' => ?_⟩
      by_cases e : j = i
      · subst e
        rw [hi] at hj'
        cases hj'
        rw [ha] at hb'
        cases hb'
        exact lg.2
      · exact Int.le_trans (hle j (by omega) b p' q' hj' hb') lg.1
    · subst eH eσ
      have bpr : Bd 2000 pr := hb.mono (by omega)
      -- numbers
      refine ⟨_, rfl, L, rfl, ⟨_, hS⟩, fun D hD => lc_list (K := K) (a := L) (xs := xs) (fun i H' => Same H H' ∧ ∃ ns : List Int, H' D = some (.lst (ns.map V.int)) ∧ ns.length = i ∧ ∀ n ∈ ns, Bd 2200 n)
        ⟨same_new hD, [], upd_same, rfl, fun n hn => (nomatch hn)⟩ (fun i H' _ ⟨sm, _⟩ => SqL.of (sm _ _ hL)) (fun i x H' hi ⟨sm, ns, hns, hl, hbn⟩ => ?_) (fun H' ⟨sm, ns, hns, hl, hbn⟩ => ?_)⟩
      · obtain ⟨a, p, q, rfl, ha, bp, bq⟩ := hx x (List.mem_of_getElem? hi)
        have hi9 := (List.getElem?_eq_some_iff.mp hi).1
        have hq := hle i hi9 a p q hi ha
        have dv : Bd 2000 (pr / q) := bpr.le (div_pos bpr.1 bq.1 hq) (div_le (Int.le_of_lt bpr.1) bq.1)
        refine ⟨a, _, rfl, SqT.of (sm _ _ ha), rfl, _, _, rfl, _, _, rfl, rfl, rfl, ?_⟩
        refine ⟨_, rfl, _, rfl, _, rfl, _, _, rfl, rfl, bq.divW (by decide) (by decide), _, _, rfl, rfl, bp.mulW dv (by decide) (by decide) (by decide), _, hns, ?_, Same.put sm hD, ns ++ [p * (pr / q)], ?_, ?_, fun n hn => ?_⟩
        · rw [List.length_map]
          exact size4 (by omega)
        · rw [upd_same, List.map_append]
          rfl
        · rw [List.length_append, hl]
          rfl
        · rcases List.mem_append.mp hn with hn | hn
          · exact hbn n hn
          · rw [List.mem_singleton.mp hn]
            exact (bp.mul dv).mono (by decide)
      · -- least
        have hN : SqL K H' D (ns.map V.int) := SqL.of hns
        refine ⟨_, rfl, D, rfl, ⟨_, hN⟩, for_list (K := K) (a := D) (xs := ns.map V.int) (fun i σ H2 => H' = H2 ∧ ∃ (le : Int) (s6 : Option V), σ = [some (.ref L), some (.int pr), s2, s3, some (.ref D), some (.int le), s6] ∧ ((i = 0 ∧ le = 0) ∨ Bd 2200 le))
          ⟨rfl, 0, none, rfl, .inl ⟨rfl, rfl⟩⟩ (fun i σ H2 _ ⟨e, _⟩ => by rw [← e]; exact hN) (fun i x σ H2 hi ⟨eH, le, s6, eσ, hle2⟩ => ?_) (fun σ H2 ⟨eH, le, s6, eσ, hle2⟩ => ?_)⟩
        · subst eH eσ
          rw [List.getElem?_map] at hi
          obtain ⟨n, hn, rfl⟩ := Option.map_eq_some_iff.mp hi
          have bn := hbn n (List.mem_of_getElem? hn)
          have l0 : 0 ≤ le := by
            rcases hle2 with ⟨_, e⟩ | b
            · omega
            · exact Int.le_of_lt b.1
          refine ⟨_, rfl, _, rfl, n, le, rfl, Int.le_of_lt bn.1, l0, rfl, _, _, rfl, .inr (bn.le (gcd_pos bn.1) (gcd_le bn.1))⟩
        · subst eH eσ
          have bl : Bd 2200 le := by
            rcases hle2 with ⟨e, _⟩ | b
            · rw [List.length_map] at e
              omega
            · exact b
          refine ⟨_, rfl, D, rfl, ⟨_, hN⟩, fun D2 hD2 => lc_list (K := K) (a := D) (xs := ns.map V.int) (fun i H3 => Same H' H3 ∧ ∃ ms : List V, H3 D2 = some (.lst ms) ∧ ms.length = i)
            ⟨same_new hD2, [], upd_same, rfl⟩ (fun i H3 _ ⟨sm3, _⟩ => SqL.of (sm3 _ _ hns)) (fun i x H3 hi ⟨sm3, ms, hms, hml⟩ => ?_) (fun H3 ⟨sm3, ms, hms, hml⟩ => ?_)⟩
          · rw [List.getElem?_map] at hi
            obtain ⟨n, hn, rfl⟩ := Option.map_eq_some_iff.mp hi
            have hlt := (List.getElem?_eq_some_iff.mp hn).1
            refine ⟨rfl, _, rfl, _, rfl, _, _, rfl, rfl, bl.divW (by decide) (by decide), ms, hms, size4 (by omega), Same.put sm3 hD2, _, upd_same, ?_⟩
            rw [List.length_append, hml]
            rfl
          · refine ⟨D2, ms, rfl, .inl ⟨SqL.of hms, fun l hl => ?_⟩⟩
            exact k _ _ (Same.trans (Same.trans sm sm3) (same_new hl))
end
end Ds
set_option maxHeartbeats 2000000
namespace Ds
open PySem PySem.Spec PyProof.Rows L2
/-! ### seen_in -/
def IsCond (H : Hp) (v : V) (c : Cond) : Prop := ∃ a st, v = .ref a ∧ H a = some (.tup [st, .int c.1, .int c.2.1, .int c.2.2.1, .int c.2.2.2])
theorem IsCond.tk {H H' : Hp} {v : V} {c : Cond} (h : IsCond H v c) (s : TK H H') : IsCond H' v c := let ⟨a, st, e, q⟩ := h; ⟨a, st, e, s a _ q⟩
theorem conds_tk {H H' : Hp} {xs : List V} {cs : List Cond} (h : Paired (IsCond H) xs cs) (s : TK H H') : Paired (IsCond H') xs cs := paired_mono h fun _ _ r => r.tk s
theorem condsAt_len (v s : List Int) (i : Nat) : (condsAt v s i).length ≤ v.length := by
  unfold condsAt othersOf
  rw [List.length_map]
  have := List.length_filter_le (fun j => decide (j ≠ i) && decide (s.getD i 0 > 0)) (List.range v.length)
  rw [List.length_range] at this
  exact this
theorem flat_len {v s : List Int} (hv : v.length ≤ 5) : ∀ n, ((List.range n).flatMap (condsAt v s)).length ≤ 5 * n
  | 0 => by simp
  | n + 1 => by
    rw [List.range_succ, List.flatMap_append, List.length_append]
    have a := flat_len (s := s) hv n
    have b : ([n].flatMap (condsAt v s)).length ≤ 5 := by
      rw [List.flatMap_singleton]
      exact Nat.le_trans (condsAt_len v s n) hv
    omega
theorem condsOf_len {r : Res} (h : GoodR r) : (condsOf r).length ≤ 25 := by
  have a := flat_len (s := r.2) h.1.len r.2.length
  have b := h.2.len
  have c := h.1.len
  unfold condsOf
  omega
theorem seen_len : ∀ {rs : List Res}, (∀ r ∈ rs, GoodR r) → (seenL rs).length ≤ 25 * rs.length
  | [], _ => by simp [seenL]
  | r :: rs, h => by
    have a := seen_len (rs := rs) fun x hx => h x (List.mem_cons_of_mem _ hx)
    have b := condsOf_len (h r List.mem_cons_self)
    unfold seenL at *
    rw [List.flatMap_cons, List.length_append, List.length_cons]
    omega
theorem seen_take {rs : List Res} {i : Nat} {r : Res} (h : rs[i]? = some r) : seenL (rs.take (i + 1)) = seenL (rs.take i) ++ condsOf r := by
  unfold seenL
  rw [List.take_add_one, h, List.flatMap_append]
  simp
abbrev g3 (K : PySem.W.Frag) (i j k : Nat) : TG := gTup K 3 (gCons (gName i) (gCons (gName j) (gCons (gName k) gNil)))
abbrev g5 (K : PySem.W.Frag) (i j k l m : Nat) : TG := gTup K 5 (gCons (gName i) (gCons (gName j) (gCons (gName k) (gCons (gName l) (gCons (gName m) gNil)))))
section
variable {P : Program} {w : World} {K : PySem.W.Frag} {mg : Str → Option Value} {base : Heap}
def spSeen : Sp := fun vs H Q _ => ∃ (v : V) (rs : List Res), vs = [v] ∧ IsRs H v rs ∧ (∀ r ∈ rs, GoodR r) ∧ rs.length ≤ 8 ∧
  ∀ H' L xs, Same H H' → H L = none → H' L = some (.lst xs) → Paired (IsCond H') xs (seenL rs) → Q (.ref L) H'
abbrev nSeen : List Str := ["results", "found", "at", "votes", "seats", "one", "many", "other", "others", "step"]
theorem scSeen : FnScope nSeen ["results"] (defScope s_seen_in) := ⟨rfl, rfl, rfl, by decide +kernel, rfl, by decide +kernel, by decide +kernel⟩
theorem ok_seen (T : Txt mg) (F : Dfn K mg "seen_in" "seen_in" s_seen_in) : Prm P w K mg base 1 "seen_in" spSeen := by
  refine F.prm scSeen (fun _ _ _ _ _ _ us hl => match us, hl with | [_], _ => rfl) (fun vs H Q E h => ?_) (fun f cdv A outer s H vs Q E hr h => ?_)
  · obtain ⟨a, b, rfl, _⟩ := h
    rfl
  · obtain ⟨v, rs, rfl, ⟨R, rvs, rfl, hR, pR⟩, hg, hlen, k⟩ := h
    have nd := scSeen.nd
    refine ⟨_, pss_cons (ps_set (i := 1) nd rfl (.inl rfl) (pe_lst pa_nil))
      (pss_cons (ps_for PassesOwn.never rfl (pi_enumT (by rfl) T.enumerate (pa_cons (pv 0) pa_nil))
          (pg_tup rfl (pgs_cons (pg_name (i := 2) nd rfl (.inl rfl)) (pgs_cons (pg_tup rfl (pgs_cons (pg_name (i := 3) nd rfl (.inl rfl)) (pgs_cons (pg_name (i := 4) nd rfl (.inl rfl)) pgs_nil))) pgs_nil)))
        (pss_one (ps_for PassesOwn.never rfl (pi_enumT (by rfl) T.enumerate (pa_cons (pv 4) pa_nil))
            (pg_tup rfl (pgs_cons (pg_name (i := 5) nd rfl (.inr rfl)) (pgs_cons (pg_name (i := 6) nd rfl (.inr rfl)) pgs_nil)))
          (pss_cons (ps_setLc (i := 8) (own := [("other", 7)]) (g := gName 7) rfl nd rfl rfl (sw_true rfl rfl rfl (by decide +kernel)) (pi_range1 (by rfl) T.range (pa_cons (pe_callB call_len_seq (by rfl) T.len PySem.boot_len (pa_cons (pv 3) pa_nil)) pa_nil))
              (blkOk_by (N := nSeen) (sc := defScope s_seen_in) (by decide +kernel)) (fun _ _ _ _ _ => pg_name (i := 7) nd rfl (.inl rfl))
              (fun _ _ _ _ _ => pts_one (PW.pt (pw_and (pt_cmpR op_ne (pv 7) (pv 5) (nomark _)) (pw_and1 (pt_cmpR op_gt (pv 6) pe_int (nomark _)))))) (fun _ _ _ _ _ => pv 7))
          (pss_one (ps_for PassesOwn.never rfl (pi_list (pv 8)) (pg_name (i := 7) nd rfl (.inl rfl))
            (pss_cons (ps_set (i := 9) nd rfl (.inl rfl) (pe_tup (pa_cons pe_str (pa_cons (pv 2) (pa_cons (pv 5) (pa_cons (pv 7) pa_nil))))))
            (pss_one (ps_expr (pe_bm PySem.F.plainAttrs_list PySem.F.slot_list_append PySem.F.type_list_append mt_append (pv 1)
              (pa_cons (pe_tup (pa_cons (pv 9) (pa_cons (pe_op op_sub (pv 6) pe_int) (pa_cons (pe_ix ix_tup (pv 4) (pv 7) (fun _ _ => rfl)) (pa_cons (pe_ix ix_tup (pv 3) (pv 5) (fun _ _ => rfl)) (pa_cons (pe_ix ix_tup (pv 3) (pv 7) (fun _ _ => rfl)) pa_nil)))))) pa_nil)))))))))))
      (pss_one (ps_ret (pv 1)))), ?_⟩
    refine ⟨Nat.zero_le _, fun L hL => ?_⟩
    have lenR : rvs.length = rs.length := Paired.length pR
    refine ⟨_, rfl, R, rvs, rfl, SqT.of (same_new hL _ _ hR), for_it walk_enumT (fun i σ H' => Same H H' ∧ (∃ s2 s3 s4 s5 s6 s7 s8 s9, σ = [some (.ref R), some (.ref L), s2, s3, s4, s5, s6, s7, s8, s9]) ∧ ∃ xs, H' L = some (.lst xs) ∧ Paired (IsCond H') xs (seenL (rs.take i)))
      ⟨same_new hL, ⟨none, none, none, none, none, none, none, none, rfl⟩, [], upd_same, .nil⟩ (fun i σ H' _ ⟨sm, _⟩ => SqT.of (sm _ _ hR)) (fun i x σ H1 H' hi ⟨sm, ⟨s2, s3, s4, s5, s6, s7, s8, s9, eσ⟩, xs, hxs, hc⟩ ⟨Tp, x0, x1, ex, nT, eH, e0, e1⟩ => ?_) (fun σ H' ⟨sm, ⟨s2, s3, s4, s5, s6, s7, s8, s9, eσ⟩, xs, hxs, hc⟩ => ?_)⟩
    · subst ex eH eσ
      have e0' : x0 = .int (i : Nat) := (Option.some.inj e0).symm
      subst e0'
      obtain ⟨r, hr1, a, vv, sv, rfl, ha, ⟨va, rfl, hva⟩, sa, rfl, hsa⟩ := paired_get pR e1
      have gr : GoodR r := hg r (List.mem_of_getElem? hr1)
      have s1 : Same H1 (upd H1 Tp (.tup [.int (i : Nat), .ref a])) := same_new nT
      have sm1 := Same.trans sm s1
      refine ⟨Tp, _, rfl, SqT.of upd_same, rfl, _, _, rfl, _, _, rfl, ⟨a, _, rfl, SqT.of (sm1 _ _ ha), rfl, _, _, rfl, _, _, rfl, rfl, rfl, ?_⟩⟩
      -- over the seats
      refine ⟨_, rfl, sa, _, rfl, SqT.of (sm1 _ _ hsa), for_it walk_enumT (fun j σ H' => Same H H' ∧ (∃ s5 s6 s7 s8 s9, σ = [some (.ref R), some (.ref L), some (.int (i : Nat)), some (.ref va), some (.ref sa), s5, s6, s7, s8, s9]) ∧
          ∃ xs, H' L = some (.lst xs) ∧ Paired (IsCond H') xs (seenL (rs.take i) ++ (List.range j).flatMap (condsAt r.1 r.2)))
        ⟨sm1, ⟨s5, s6, s7, s8, s9, rfl⟩, xs, s1 _ _ hxs, by rw [show (List.range 0).flatMap (condsAt r.1 r.2) = [] from rfl, List.append_nil]; exact conds_tk hc s1.tk⟩ (fun j σ H' _ ⟨sm, _⟩ => SqT.of (sm _ _ hsa))
        (fun j y σ H2 H' hj ⟨sm, ⟨s5, s6, s7, s8, s9, eσ⟩, xs, hxs, hc⟩ ⟨Tq, y0, y1, ey, nTq, eH, f0, f1⟩ => ?_) (fun σ H' ⟨sm, ⟨s5, s6, s7, s8, s9, eσ⟩, xs, hxs, hc⟩ => ?_)⟩
      · subst ey eH eσ
        have f0' : y0 = .int (j : Nat) := (Option.some.inj f0).symm
        subst f0'
        rw [List.length_map] at hj
        have f1' : y1 = .int (r.2.getD j 0) := by
          have f2 : (r.2.map V.int)[j]? = some y1 := f1
          rw [map_at hj] at f2
          exact (Option.some.inj f2).symm
        subst f1'
        have s2 : Same H2 (upd H2 Tq (.tup [.int (j : Nat), .int (r.2.getD j 0)])) := same_new nTq
        have sm2 := Same.trans sm s2
        generalize eH3 : upd H2 Tq (.tup [.int (j : Nat), .int (r.2.getD j 0)]) = H3 at s2 sm2
        refine ⟨Tq, _, rfl, SqT.of (by rw [← eH3]; exact upd_same), rfl, _, _, rfl, _, _, rfl, rfl, ?_⟩
        have hxs3 := s2 _ _ hxs
        have hc3 := conds_tk hc s2.tk
        -- others
        have vl := gr.1.len
        refine ⟨_, rfl, va, _, rfl, .inr (SqT.of (sm2 _ _ hva)), _, rfl, by rw [List.length_map]; omega, by rw [List.length_map]; omega, fun D hD => ?_⟩
        have en : ((r.1.map V.int).length : Int).toNat = r.1.length := by rw [List.length_map]; rfl
        rw [en]
        refine lc_range (lo := 0) (n := r.1.length) (fun m H' => Same H3 H' ∧ H' D = some (.lst ((((List.range m).filter fun z => decide (z ≠ j) && decide (r.2.getD j 0 > 0))).map fun z : Nat => V.int (z : Int))))
          ⟨same_new hD, upd_same⟩ (fun m H' hm ⟨sm4, hD4⟩ => ⟨rfl, ?_⟩) (fun H4 ⟨sm4, hD4⟩ => ?_)
        · have ez : (0 : Int) + (m : Int) = (m : Int) := Int.zero_add _
          rw [ez]
          have ep : (List.range (m + 1)).filter (fun z => decide (z ≠ j) && decide (r.2.getD j 0 > 0)) = (List.range m).filter (fun z => decide (z ≠ j) && decide (r.2.getD j 0 > 0)) ++ (if (decide (m ≠ j) && decide (r.2.getD j 0 > 0)) = true then [m] else []) := by
            rw [List.range_succ, List.filter_append, List.filter_cons, List.filter_nil]
          have fin : ∀ b : Bool, (decide (m ≠ j) && decide (r.2.getD j 0 > 0)) = b → (if b = true then tVar 7 [some (.ref R), some (.ref L), some (.int (i : Nat)), some (.ref va), some (.ref sa), some (.int (j : Nat)), some (.int (r.2.getD j 0)), some (.int (m : Int)), s8, s9] H' fun y H4 => ∃ acc, H4 D = some (.lst acc) ∧ acc.length < sizeLine ∧ (Same H3 (upd H4 D (.lst (acc ++ [y]))) ∧ (upd H4 D (.lst (acc ++ [y]))) D = some (.lst ((((List.range (m + 1)).filter fun z => decide (z ≠ j) && decide (r.2.getD j 0 > 0))).map fun z : Nat => V.int (z : Int))))
              else (Same H3 H' ∧ H' D = some (.lst ((((List.range (m + 1)).filter fun z => decide (z ≠ j) && decide (r.2.getD j 0 > 0))).map fun z : Nat => V.int (z : Int))))) := fun b hb => by
            rw [ep, hb]
            cases b with
            | true =>
              refine iteT ⟨_, rfl, _, hD4, ?_, Same.put sm4 hD, ?_⟩
              · rw [List.length_map]
                have := List.length_filter_le (fun z => decide (z ≠ j) && decide (r.2.getD j 0 > 0)) (List.range m)
                rw [List.length_range] at this
                exact size4 (by omega)
              · rw [upd_same, if_pos rfl, List.map_append]
                rfl
            | false =>
              refine iteF ⟨sm4, ?_⟩
              rw [if_neg (by decide), List.append_nil]
              exact hD4
          refine ⟨_, rfl, _, rfl, rfl, _, rfl, ?_⟩
          by_cases hmj : m = j
          · have d1 : (!decide (V.int (m : Int) = V.int ((j : Nat) : Int))) = false := by rw [hmj, decide_eq_true rfl]; rfl
            rw [d1]
            refine iteF (fin false ?_)
            rw [decide_eq_false (fun z : m ≠ j => z hmj)]
            rfl
          · have d1 : (!decide (V.int (m : Int) = V.int ((j : Nat) : Int))) = true := by
              rw [decide_eq_false (fun z => hmj (by injection z with z; omega))]
              rfl
            rw [d1]
            refine iteT ⟨_, rfl, _, _, rfl, rfl, _, rfl, fin _ ?_⟩
            rw [decide_eq_true hmj, Bool.true_and]
        · -- the loop over others
          have smH4 := Same.trans sm2 sm4
          have hO : SqL K H4 D ((othersOf r.1 r.2 j).map fun z : Nat => V.int (z : Int)) := SqL.of hD4
          refine ⟨_, rfl, D, rfl, ⟨_, hO⟩, for_list (K := K) (a := D) (xs := (othersOf r.1 r.2 j).map fun z : Nat => V.int (z : Int)) (fun m σ H' => Same H H' ∧ H' D = some (.lst ((othersOf r.1 r.2 j).map fun z : Nat => V.int (z : Int))) ∧ (∃ s7 s9, σ = [some (.ref R), some (.ref L), some (.int (i : Nat)), some (.ref va), some (.ref sa), some (.int (j : Nat)), some (.int (r.2.getD j 0)), s7, some (.ref D), s9]) ∧
              ∃ xs, H' L = some (.lst xs) ∧ Paired (IsCond H') xs (seenL (rs.take i) ++ (List.range j).flatMap (condsAt r.1 r.2) ++ ((othersOf r.1 r.2 j).take m).map (condAt r.1 r.2 j)))
            ⟨smH4, hD4, ⟨_, s9, rfl⟩, xs, sm4 _ _ hxs3, by rw [List.take_zero, List.map_nil, List.append_nil]; exact conds_tk hc3 sm4.tk⟩ (fun m σ H' _ ⟨_, h, _⟩ => SqL.of h) (fun m y σ H' hm ⟨sm5, hD5, ⟨s7, s9, eσ⟩, xs, hxs, hc⟩ => ?_) (fun σ H' ⟨sm5, hD5, ⟨s7, s9, eσ⟩, xs, hxs, hc⟩ => ?_)⟩
          · subst eσ
            rw [List.getElem?_map] at hm
            obtain ⟨o, ho, rfl⟩ := Option.map_eq_some_iff.mp hm
            have ho2 := List.mem_of_getElem? ho
            have hov : o < r.1.length := by
              unfold othersOf at ho2
              exact List.mem_range.mp (List.mem_filter.mp ho2).1
            have hml := (List.getElem?_eq_some_iff.mp ho).1
            have hos : o < r.2.length := by
              have := gr.2.len
              omega
            have hjv : j < r.1.length := by
              have := gr.2.len
              omega
            have hll : xs.length ≤ 10000 := by
              rw [Paired.length hc, List.length_append, List.length_append, List.length_map, List.length_take]
              have a1 := seen_len (rs := rs.take i) fun r hr => hg r (List.mem_of_mem_take hr)
              have a2 := flat_len (s := r.2) vl j
              have a3 : (rs.take i).length ≤ rs.length := by rw [List.length_take]; omega
              have a4 : (othersOf r.1 r.2 j).length ≤ 5 := by
                have := condsAt_len r.1 r.2 j
                unfold condsAt at this
                rw [List.length_map] at this
                omega
              have a5 : j ≤ 5 := by omega
              omega
            refine ⟨_, rfl, _, rfl, _, rfl, by show 4 ≤ sizeLine; decide, fun p hp => ?_⟩
            have sp : Same H' (upd H' p (.tup [.str "seen", .int (i : Nat), .int (j : Nat), .int (o : Int)])) := same_new hp
            generalize eH6 : upd H' p (.tup [.str "seen", .int (i : Nat), .int (j : Nat), .int (o : Int)]) = H6 at sp
            have sm6 := Same.trans sm5 sp
            refine ⟨_, rfl, .inl ⟨rfl, _, SqL.of (sp _ _ hxs)⟩, ?_⟩
            refine ⟨_, rfl, _, rfl, _, _, rfl, rfl, _, rfl, _, rfl, sa, _, _, _, rfl, rfl, SqT.of (sm6 _ _ hsa), at_int rfl hos, _, rfl, _, rfl, va, _, _, _, rfl, rfl, SqT.of (sm6 _ _ hva), at_int rfl hjv, _, rfl, _, rfl, va, _, _, _, rfl, rfl, SqT.of (sm6 _ _ hva), at_int rfl hov, by show 5 ≤ sizeLine; decide, fun q hq => ?_⟩
            have sq : Same H6 (upd H6 q (.tup [.ref p, .int (r.2.getD j 0 - 1), .int (r.2.getD o 0), .int (r.1.getD j 0), .int (r.1.getD o 0)])) := same_new hq
            have nqL : L ≠ q := ne_of_none (sp _ _ hxs) hq
            refine ⟨L, xs, _, rfl, rfl, sq _ _ (sp _ _ hxs), size4 (by omega), Same.put (Same.trans sm6 sq) hL, ?_, ⟨_, _, rfl⟩, xs ++ [.ref q], upd_same, ?_⟩
            · have nDL : D ≠ L := Ne.symm (ne_of_none hxs3 hD)
              rw [upd_ne nDL]
              exact sq _ _ (sp _ _ hD5)
            · have tkL : TK H' (upd (upd H6 q (.tup [.ref p, .int (r.2.getD j 0 - 1), .int (r.2.getD o 0), .int (r.1.getD j 0), .int (r.1.getD o 0)])) L (.lst (xs ++ [.ref q]))) := TK.put (Same.trans sp sq).tk fun z e => by rw [sq _ _ (sp _ _ hxs)] at e; cases e
              rw [List.take_add_one, ho, Option.toList_some, List.map_append, ← List.append_assoc]
              refine paired_snoc (conds_tk hc tkL) ⟨q, .ref p, rfl, ?_⟩
              rw [upd_ne (Ne.symm nqL), upd_same]
              rfl
          · subst eσ
            refine ⟨sm5, ⟨_, _, _, _, _, rfl⟩, xs, hxs, ?_⟩
            rw [List.length_map, List.take_length] at hc
            rw [List.range_succ, List.flatMap_append, List.flatMap_singleton, ← List.append_assoc]
            exact hc
      · subst eσ
        refine ⟨sm, ⟨_, _, _, _, _, _, _, _, rfl⟩, xs, hxs, ?_⟩
        rw [List.length_map] at hc
        rw [seen_take hr1]
        exact hc
    · subst eσ
      refine ⟨_, rfl, k _ L xs sm hL hxs ?_⟩
      rw [lenR, List.take_length] at hc
      exact hc
end
end Ds
set_option maxHeartbeats 2000000
/-! A dict whose keys are pairs of ints and whose values are triples, as a table. -/
namespace Ds
open PySem PySem.Spec PyProof.Rows L2
abbrev kOf (k : Ky) : List L2.Key := [Sum.inl k.1, Sum.inl k.2]
theorem kOf_inj {a b : Ky} (h : kOf a = kOf b) : a = b := by
  injection h with h1 h2
  injection h2 with h2 _
  exact Prod.ext (Sum.inl.inj h1) (Sum.inl.inj h2)
theorem kOf_map (a b : Int) : (kOf (a, b)).map kV = [.int a, .int b] := rfl
/-- what the third part of a triple is to be -/
abbrev TW := Hp → V → Prop
def Stb (W : TW) : Prop := ∀ H H' x, TK H H' → W H x → W H' x
def wAny : TW := fun _ _ => True
def wTup (n : Nat) : TW := fun H x => ∃ w ws, x = .ref w ∧ H w = some (.tup ws) ∧ ws.length = n
theorem stb_any : Stb wAny := fun _ _ _ _ _ => True.intro
theorem stb_tup {n : Nat} : Stb (wTup n) := fun H H' x t ⟨w, ws, e, h, l⟩ => ⟨w, ws, e, t _ _ h, l⟩
/-- the value v is a triple of the two numbers and something -/
def Tri (W : TW) (H : Hp) (v : V) (y : Int × Int) : Prop := ∃ t x, v = .ref t ∧ H t = some (.tup [.int y.1, .int y.2, x]) ∧ W H x
theorem Tri.tk {W : TW} (sW : Stb W) {H H' : Hp} {v : V} {y : Int × Int} (h : Tri W H v y) (s : TK H H') : Tri W H' v y := let ⟨t, x, e, q, r⟩ := h; ⟨t, x, e, s _ _ q, sW _ _ _ s r⟩
def TabH (W : TW) (H : Hp) (kvs : List (List L2.Key × V)) (T : Tab) : Prop := Paired (fun kv e => kv.1 = kOf e.1 ∧ Tri W H kv.2 e.2) kvs T
section
variable {W : TW} {H H' : Hp} {kvs : List (List L2.Key × V)} {T : Tab}
theorem TabH.tk (sW : Stb W) (h : TabH W H kvs T) (s : TK H H') : TabH W H' kvs T := paired_mono h fun _ _ r => ⟨r.1, r.2.tk sW s⟩
theorem TabH.any (h : TabH W H kvs T) : TabH wAny H kvs T := paired_mono h fun _ _ ⟨r, t, x, e, q, _⟩ => ⟨r, t, x, e, q, True.intro⟩
theorem TabH.length (h : TabH W H kvs T) : kvs.length = T.length := Paired.length h
theorem TabH.get (h : TabH W H kvs T) (k : Ky) : match tget T k with
    | none => valV kvs (kOf k) = none
    | some y => ∃ v, valV kvs (kOf k) = some v ∧ Tri W H v y := by
  unfold TabH at h
  induction h with
  | nil => rfl
  | @cons kv e r t hd tl ih =>
    by_cases q : e.1 = k
    · have a : tget (e :: t) k = some e.2 := by
        unfold tget
        rw [List.find?_cons, decide_eq_true q]
        rfl
      rw [a]
      exact ⟨kv.2, valV_pos (hd.1.trans (by rw [q])), hd.2⟩
    · have a : tget (e :: t) k = tget t k := by
        unfold tget
        rw [List.find?_cons, decide_eq_false q]
      have b : valV (kv :: r) (kOf k) = valV r (kOf k) := valV_neg fun z => q (kOf_inj (hd.1.symm.trans z))
      rw [a, b]
      exact ih
theorem TabH.none (h : TabH W H kvs T) {k : Ky} (e : tget T k = none) : valV kvs (kOf k) = none := by
  have := h.get k
  rw [e] at this
  exact this
theorem TabH.some (h : TabH W H kvs T) {k : Ky} {y : Int × Int} (e : tget T k = some y) : ∃ v, valV kvs (kOf k) = some v ∧ Tri W H v y := by
  have := h.get k
  rw [e] at this
  exact this
theorem TabH.put (h : TabH W H kvs T) (k : Ky) {v : V} {y : Int × Int} (rv : Tri W H v y) : TabH W H (putK kvs (kOf k) v) (tput T k y) := by
  have any : (kvs.any fun kv => decide (kv.1 = kOf k)) = (T.any fun e => decide (e.1 = k)) := by
    unfold TabH at h
    induction h with
    | nil => rfl
    | @cons kv e r t hd tl ih =>
      rw [List.any_cons, List.any_cons, ih]
      congr 1
      by_cases q : e.1 = k
      · rw [decide_eq_true q, decide_eq_true (hd.1.trans (by rw [q]))]
      · rw [decide_eq_false q, decide_eq_false fun z => q (kOf_inj (hd.1.symm.trans z))]
  unfold putK tput
  rw [any]
  by_cases c : (T.any fun e => decide (e.1 = k)) = true
  · rw [if_pos c, if_pos c]
    unfold TabH at h ⊢
    clear any c
    induction h with
    | nil => exact .nil
    | @cons kv e r t hd tl ih =>
      rw [List.map_cons, List.map_cons]
      refine .cons ?_ ih
      by_cases q : e.1 = k
      · rw [if_pos q, if_pos (hd.1.trans (by rw [q]))]
        exact ⟨hd.1, rv⟩
      · rw [if_neg q, if_neg fun z => q (kOf_inj (hd.1.symm.trans z))]
        exact hd
  · rw [if_neg c, if_neg c]
    exact paired_snoc h ⟨rfl, rv⟩
/-- the i-th entry, by its key -/
theorem TabH.at_ (h : TabH W H kvs T) (hn : NoDup T) {i : Nat} {k : List L2.Key} {v : V} (e : kvs[i]? = Option.some (k, v)) : ∃ x, T[i]? = Option.some x ∧ k = kOf x.1 ∧ valV kvs (kOf x.1) = Option.some v ∧ Tri W H v x.2 := by
  obtain ⟨x, hx, e1, r⟩ := paired_get h e
  obtain ⟨v', hv, _⟩ := h.some (tget_mem hn (List.mem_of_getElem? hx))
  -- the value at the key is the i-th: keys differ
  refine ⟨x, hx, e1, ?_, r⟩
  have nd : (kvs.map (·.1)).Nodup := by
    have : ∀ {kvs : List (List L2.Key × V)} {T : Tab}, TabH W H kvs T → kvs.map (·.1) = (T.map (·.1)).map kOf := fun {kvs T} z => by
      unfold TabH at z
      induction z with
      | nil => rfl
      | cons hd tl ih => rw [List.map_cons, List.map_cons, List.map_cons, ih, hd.1]
    rw [this h]
    unfold NoDup at hn
    generalize T.map (·.1) = l at hn
    induction l with
    | nil => exact List.nodup_nil
    | cons a l ih =>
      rw [List.nodup_cons] at hn
      rw [List.map_cons, List.nodup_cons]
      refine ⟨fun m => ?_, ih hn.2⟩
      obtain ⟨b, hb, eb⟩ := List.mem_map.mp m
      exact hn.1 (kOf_inj eb ▸ hb)
  clear h hn hx r hv
  subst e1
  revert i
  induction kvs with
  | nil =>
    intro i e
    simp at e
  | cons p r ih =>
    intro i e
    rw [List.map_cons, List.nodup_cons] at nd
    cases i with
    | zero =>
      simp at e
      subst e
      exact valV_pos rfl
    | succ i =>
      have e2 : r[i]? = Option.some (kOf x.1, v) := by simpa using e
      have ne : ¬ p.1 = kOf x.1 := fun z => nd.1 (z ▸ List.mem_map_of_mem (f := (·.1)) (List.mem_of_getElem? e2))
      rw [valV_neg ne]
      exact ih nd.2 e2
end
theorem tput_len (T : Tab) (k : Ky) (v : Int × Int) : (tput T k v).length ≤ T.length + 1 := by
  rcases tput_cases T k v with ⟨e, _⟩ | ⟨e, _⟩
  · rw [e, List.length_map]
    omega
  · rw [e, List.length_append]
    exact Nat.le_refl _
theorem relax_len (T : Tab) (x : Ent) : (relax T x).length ≤ T.length + 1 := by
  unfold relax
  split
  · exact tput_len _ _ _
  · omega
theorem fold_len : ∀ (L : List Ent) (T : Tab), (L.foldl relax T).length ≤ T.length + L.length
  | [], _ => Nat.le_refl _
  | x :: L, T => by
    have a := fold_len L (relax T x)
    have b := relax_len T x
    rw [List.foldl_cons, List.length_cons]
    omega
theorem tabOf_len (L : List Ent) : (tabOf L).length ≤ L.length := by
  have := fold_len L []
  simp at this
  exact this
theorem relax_nd {T : Tab} (x : Ent) (h : NoDup T) : NoDup (relax T x) := by
  unfold relax
  split
  · exact nodup_put _ _ h
  · exact h
theorem fold_nd : ∀ (L : List Ent) (T : Tab), NoDup T → NoDup (L.foldl relax T)
  | [], _, h => h
  | x :: L, T, h => fold_nd L (relax T x) (relax_nd x h)
theorem tabOf_nd (L : List Ent) : NoDup (tabOf L) := fold_nd L [] List.nodup_nil
theorem relax_mem {T : Tab} {x y : Ent} (h : y ∈ relax T x) : y = x ∨ y ∈ T := by
  unfold relax at h
  split at h
  · rcases mem_put h with e | ⟨h, _⟩
    · exact .inl e
    · exact .inr h
  · exact .inr h
theorem fold_mem : ∀ (L : List Ent) (T : Tab) {y : Ent}, y ∈ L.foldl relax T → y ∈ T ∨ y ∈ L
  | [], _, _, h => .inl h
  | x :: L, T, y, h => by
    rcases fold_mem L (relax T x) h with h | h
    · rcases relax_mem h with e | h
      · exact .inr (e ▸ List.mem_cons_self)
      · exact .inl h
    · exact .inr (List.mem_cons_of_mem _ h)
theorem tabOf_mem {L : List Ent} {y : Ent} (h : y ∈ tabOf L) : y ∈ L := (fold_mem L [] h).elim (fun z => nomatch z) id
/-- keys between 0 and 9: at most a hundred -/
theorem nodup_lt : ∀ (n : Nat) (l : List Nat), l.Nodup → (∀ x ∈ l, x < n) → l.length ≤ n
  | 0, l, _, h => by
    cases l with
    | nil => exact Nat.le_refl _
    | cons a _ => exact absurd (h a List.mem_cons_self) (Nat.not_lt_zero _)
  | n + 1, l, hn, h => by
    have a := nodup_lt n (l.filter fun x => decide (x ≠ n)) (hn.filter _) fun x hx => by
      obtain ⟨h1, h2⟩ := List.mem_filter.mp hx
      have := h x h1
      have := of_decide_eq_true h2
      omega
    have b : l.length ≤ (l.filter fun x => decide (x ≠ n)).length + 1 := by
      clear a h
      induction l with
      | nil => simp
      | cons c l ih =>
        rw [List.nodup_cons] at hn
        by_cases e : c = n
        · have : l.filter (fun x => decide (x ≠ n)) = l := List.filter_eq_self.mpr fun x hx => decide_eq_true fun z => hn.1 (by rw [e, ← z]; exact hx)
          rw [List.filter_cons, if_neg (by simp [e]), this]
          exact Nat.le_refl _
        · rw [List.filter_cons, if_pos (decide_eq_true e), List.length_cons, List.length_cons]
          have := ih hn.2
          omega
    omega
def Small (T : Tab) : Prop := ∀ y ∈ T, 0 ≤ y.1.1 ∧ y.1.1 ≤ 9 ∧ 0 ≤ y.1.2 ∧ y.1.2 ≤ 9
theorem small_len {T : Tab} (hn : NoDup T) (h : Small T) : T.length ≤ 100 := by
  have nd : ((T.map (·.1)).map fun k : Ky => k.1.toNat * 10 + k.2.toNat).Nodup := by
    have hk : ∀ k ∈ T.map (·.1), 0 ≤ k.1 ∧ k.1 ≤ 9 ∧ 0 ≤ k.2 ∧ k.2 ≤ 9 := fun k hk => by
      obtain ⟨y, hy, rfl⟩ := List.mem_map.mp hk
      exact h y hy
    unfold NoDup at hn
    generalize T.map (·.1) = l at hn hk
    clear h
    induction l with
    | nil => exact List.nodup_nil
    | cons a l ih =>
      rw [List.nodup_cons] at hn
      rw [List.map_cons, List.nodup_cons]
      refine ⟨fun m => ?_, ih hn.2 fun k q => hk k (List.mem_cons_of_mem _ q)⟩
      obtain ⟨b, hb, eb⟩ := List.mem_map.mp m
      have a1 := hk a List.mem_cons_self
      have b1 := hk b (List.mem_cons_of_mem _ hb)
      have e : b = a := Prod.ext (by omega) (by omega)
      exact hn.1 (e ▸ hb)
  have l := nodup_lt 100 _ nd fun x hx => by
    obtain ⟨k, hk, rfl⟩ := List.mem_map.mp hx
    obtain ⟨y, hy, rfl⟩ := List.mem_map.mp hk
    have := h y hy
    omega
  rw [List.length_map, List.length_map] at l
  exact l
end Ds
set_option maxHeartbeats 2000000
namespace Ds
open PySem PySem.Spec PyProof.Rows L2
section
variable {P : Program} {w : World} {K : PySem.W.Frag} {mg : Str → Option Value} {base : Heap}
/-! ### top_of -/
def spTop : Sp := fun vs H Q _ => ∃ (L : Addr) (xs : List V) (cs : List Cond), vs = [.ref L] ∧ H L = some (.lst xs) ∧ Paired (IsCond H) xs cs ∧ (∀ c ∈ cs, CondOk c) ∧ xs.length ≤ 1000 ∧
  ∀ H' t, Same H H' → IsTop cs t → t ≤ 8 → Q (.int (t : Nat)) H'
abbrev nTop : List Str := ["seen", "step", "start", "end", "p", "q"]
theorem scTop : FnScope nTop ["seen"] (defScope s_top_of) := ⟨rfl, rfl, rfl, by decide +kernel, rfl, by decide +kernel, by decide +kernel⟩
def mx (c : Cond) : Int := if c.2.1 > c.1 then c.2.1 else c.1
theorem top_of_max {cs : List Cond} (hc : ∀ c ∈ cs, CondOk c) {m : Int} (h1 : m ∈ 0 :: cs.map mx) (h2 : ∀ y ∈ 0 :: cs.map mx, y ≤ m) : ∃ t : Nat, m = (t : Int) ∧ IsTop cs t ∧ t ≤ 8 := by
  have h0 := h2 0 List.mem_cons_self
  refine ⟨m.toNat, by omega, ⟨fun c q => ?_, ?_⟩, ?_⟩
  · have a := h2 (mx c) (List.mem_cons_of_mem _ (List.mem_map_of_mem q))
    unfold mx at a
    split at a <;> omega
  · rcases List.mem_cons.mp h1 with e | h1
    · left
      omega
    · obtain ⟨c, q, e⟩ := List.mem_map.mp h1
      refine .inr ⟨c, q, ?_⟩
      unfold mx at e
      split at e
      · exact .inr (by omega)
      · exact .inl (by omega)
  · rcases List.mem_cons.mp h1 with e | h1
    · omega
    · obtain ⟨c, q, e⟩ := List.mem_map.mp h1
      have ok := hc c q
      have a1 := ok.s8
      have a2 := ok.e8
      unfold mx at e
      split at e <;> omega
theorem ok_top (T : Txt mg) (F : Dfn K mg "top_of" "top_of" s_top_of) : Prm P w K mg base 1 "top_of" spTop := by
  refine F.prm scTop (fun _ _ _ _ _ _ us hl => match us, hl with | [_], _ => rfl) (fun vs H Q E h => ?_) (fun f cdv A outer s H vs Q E hr h => ?_)
  · obtain ⟨a, b, c, rfl, _⟩ := h
    rfl
  · obtain ⟨L, xs, cs, rfl, hL, pc, hc, hlen, k⟩ := h
    have nd := scTop.nd
    refine ⟨_, pss_one (ps_ret (pe_callB (cr_max rfl) (by rfl) T.max (by decide +kernel) (pa_cons (pe_op op_cat (pe_lst (pa_cons pe_int pa_nil))
      (pe_lc (own := [("step", 1), ("start", 2), ("end", 3), ("p", 4), ("q", 5)]) (g := g5 K 1 2 3 4 5) rfl nd (pi_list (pv 0)) (blkOk_by (N := nTop) (sc := defScope s_top_of) (by decide +kernel))
        (fun _ _ _ _ _ => pg_tup rfl (pgs_cons (pg_name (i := 1) nd rfl (.inl rfl)) (pgs_cons (pg_name (i := 2) nd rfl (.inl rfl)) (pgs_cons (pg_name (i := 3) nd rfl (.inl rfl)) (pgs_cons (pg_name (i := 4) nd rfl (.inl rfl)) (pgs_cons (pg_name (i := 5) nd rfl (.inl rfl)) pgs_nil))))))
        (fun _ _ _ _ _ => pts_nil) (fun _ _ _ _ _ => pe_callB (call_max2 rfl) (by rfl) T.max (by decide +kernel) (pa_cons (pv 2) (pa_cons (pv 3) pa_nil))))) pa_nil))), ?_⟩
    refine ⟨by show 1 ≤ sizeLine; decide, fun p hp => ?_⟩
    have s1 : Same H (upd H p (.lst [.int 0])) := same_new hp
    generalize eH1 : upd H p (.lst [.int 0]) = H1 at s1
    have h1p : H1 p = some (.lst [.int 0]) := by rw [← eH1]; exact upd_same
    refine ⟨_, rfl, L, rfl, ⟨xs, SqL.of (s1 _ _ hL)⟩, fun D hD => lc_list (K := K) (a := L) (xs := xs) (fun i H' => Same H1 H' ∧ H' D = some (.lst (((cs.take i).map mx).map V.int)))
      ⟨same_new hD, upd_same⟩ (fun i H' _ ⟨sm, _⟩ => SqL.of (sm _ _ (s1 _ _ hL))) (fun i x H' hi ⟨sm, hDi⟩ => ?_) (fun H' ⟨sm, hDi⟩ => ?_)⟩
    · obtain ⟨c, hci, a, st, rfl, ha⟩ := paired_get pc hi
      refine ⟨a, _, rfl, SqT.of (sm _ _ (s1 _ _ ha)), rfl, _, _, rfl, _, _, rfl, _, _, rfl, _, _, rfl, _, _, rfl, rfl, rfl, ?_⟩
      refine ⟨_, rfl, _, rfl, _, _, rfl, _, hDi, ?_, Same.put sm hD, ?_⟩
      · rw [List.length_map, List.length_map, List.length_take]
        have := Paired.length pc
        exact size4 (by omega)
      · rw [upd_same, List.take_add_one, hci, Option.toList_some, List.map_append, List.map_append]
        rfl
    · have lc := Paired.length pc
      rw [lc, List.take_length] at hDi
      have e : ([V.int 0] ++ (cs.map mx).map V.int) = (0 :: cs.map mx).map V.int := rfl
      refine ⟨p, D, [.int 0], _, rfl, rfl, sm _ _ h1p, hDi, ?_, fun q hq => ⟨q, 0 :: cs.map mx, rfl, SqL.of (by rw [← e]; exact upd_same), by simp, fun m hm hle => ?_⟩⟩
      · rw [List.length_map, List.length_map]
        exact size5 (by show 1 + cs.length ≤ 100000; omega)
      · obtain ⟨t, rfl, ht, h8⟩ := top_of_max hc hm hle
        exact k _ t (Same.trans (Same.trans s1 sm) (same_new hq)) ht h8

/-! ### least_steps -/
def spLeast : Sp := fun vs H Q _ => ∃ (L : Addr) (xs : List V) (cs : List Cond) (t : Nat), vs = [.ref L, .int (t : Nat)] ∧ H L = some (.lst xs) ∧ Paired (IsCond H) xs cs ∧ (∀ c ∈ cs, CondOk c) ∧ xs.length ≤ 1000 ∧ t ≤ 8 ∧
  ∀ H' d kvs, Same H H' → H d = none → H' d = some (.dT kvs) → TabH wAny H' kvs (stepsT (cs ++ ups t)) → Q (.ref d) H'
abbrev nLeast : List Str := ["seen", "top", "found", "ups", "step", "start", "end", "p", "q", "index"]
theorem scLeast : FnScope nLeast ["seen", "top"] (defScope s_least_steps) := ⟨rfl, rfl, rfl, by decide +kernel, rfl, by decide +kernel, by decide +kernel⟩
theorem ups_ok {t : Nat} (h : t ≤ 8) {c : Cond} (hc : c ∈ ups t) : 0 ≤ c.1 ∧ c.1 ≤ 9 ∧ 0 ≤ c.2.1 ∧ c.2.1 ≤ 9 ∧ Bd 20 c.2.2.1 ∧ Bd 20 c.2.2.2 := by
  obtain ⟨k, hk, rfl⟩ := mem_ups.mp hc
  exact ⟨show (0 : Int) ≤ (k : Int) by omega, show (k : Int) ≤ 9 by omega, show (0 : Int) ≤ (k : Int) + 1 by omega, show (k : Int) + 1 ≤ 9 by omega, Bd.one.mono (by decide), Bd.one.mono (by decide)⟩
theorem cond_bd {c : Cond} (h : CondOk c) : 0 ≤ c.1 ∧ c.1 ≤ 9 ∧ 0 ≤ c.2.1 ∧ c.2.1 ≤ 9 ∧ Bd 20 c.2.2.1 ∧ Bd 20 c.2.2.2 := by
  have a := h.s8
  have b := h.e8
  exact ⟨h.s0, by omega, h.e0, by omega, Bd.mil h.p0 h.p1, Bd.mil h.q0 h.q1⟩
/-- what the conditions are to be -/
def CC (C : List Cond) : Prop := ∀ c ∈ C, 0 ≤ c.1 ∧ c.1 ≤ 9 ∧ 0 ≤ c.2.1 ∧ c.2.1 ≤ 9 ∧ Bd 20 c.2.2.1 ∧ Bd 20 c.2.2.2
theorem cc_all {cs : List Cond} {t : Nat} (hc : ∀ c ∈ cs, CondOk c) (h : t ≤ 8) : CC (cs ++ ups t) := fun c m => (List.mem_append.mp m).elim (fun m => cond_bd (hc c m)) fun m => ups_ok h m
theorem ups_conds {H : Hp} {t : Nat} {ys : List V} (h : Paired (IsCond H) ys (ups t)) : ys.length = t := by
  rw [Paired.length h]
  unfold ups
  rw [List.length_map, List.length_range]
theorem ups_succ (t : Nat) : ups (t + 1) = ups t ++ [((t : Int), (t : Int) + 1, 1, 1)] := by
  unfold ups
  rw [List.range_succ, List.map_append]
  rfl
theorem steps_snoc (C : List Cond) (c : Cond) : stepsT (C ++ [c]) = relax (stepsT C) (entOf c) := by
  unfold stepsT
  rw [List.map_append]
  exact tabOf_snoc _ _
theorem steps_len (C : List Cond) : (stepsT C).length ≤ C.length := by
  have := tabOf_len (C.map entOf)
  rw [List.length_map] at this
  exact this
theorem steps_in {C : List Cond} {y : Ent} (h : y ∈ stepsT C) : ∃ c ∈ C, entOf c = y := List.mem_map.mp (tabOf_mem h)
theorem ok_least (T : Txt mg) (F : Dfn K mg "least_steps" "least_steps" s_least_steps) : Prm P w K mg base 1 "least_steps" spLeast := by
  refine F.prm scLeast (fun _ _ _ _ _ _ us hl => match us, hl with | [_, _], _ => rfl) (fun vs H Q E h => ?_) (fun f cdv A outer s H vs Q E hr h => ?_)
  · obtain ⟨a, b, c, t, rfl, _⟩ := h
    rfl
  · obtain ⟨L, xs, cs, t, rfl, hL, pc, hc, hlen, ht8, k⟩ := h
    have nd := scLeast.nd
    have hu := hu_of hr
    refine ⟨_, pss_cons (ps_set (i := 2) nd rfl (.inl rfl) pe_dnewT)
      (pss_cons (ps_setLc (i := 3) (own := [("index", 9)]) (g := gName 9) rfl nd rfl rfl (sw_true rfl rfl rfl (by decide +kernel)) (pi_range1 (by rfl) T.range (pa_cons (pv 1) pa_nil)) (blkOk_by (N := nLeast) (sc := defScope s_least_steps) (by decide +kernel))
        (fun _ _ _ _ _ => pg_name (i := 9) nd rfl (.inl rfl)) (fun _ _ _ _ _ => pts_nil)
        (fun _ _ _ _ _ => pe_tup (pa_cons (pe_tup (pa_cons pe_str (pa_cons (pv 9) pa_nil))) (pa_cons (pv 9) (pa_cons (pe_op op_add (pv 9) pe_int) (pa_cons pe_int (pa_cons pe_int pa_nil)))))))
      (pss_cons (ps_for PassesOwn.never rfl (pi_list (pe_op op_cat (pv 0) (pv 3)))
          (pg_tup rfl (pgs_cons (pg_name (i := 4) nd rfl (.inl rfl)) (pgs_cons (pg_name (i := 5) nd rfl (.inl rfl)) (pgs_cons (pg_name (i := 6) nd rfl (.inl rfl)) (pgs_cons (pg_name (i := 7) nd rfl (.inl rfl)) (pgs_cons (pg_name (i := 8) nd rfl (.inl rfl)) pgs_nil))))))
        (pss_one (ps_if (PW.pt (pw_or (pt_cmp (pc_dnotin hu (pe_tup (pa_cons (pv 5) (pa_cons (pv 6) pa_nil))) (pv 2)) (by rfl))
            (pw_or1 (pt_cmpR op_lt (pe_op op_mulW (pv 7) (pe_ix ix_tup (pe_dget hu (pv 2) (pe_tup (pa_cons (pv 5) (pa_cons (pv 6) pa_nil))) (fun _ _ => rfl)) pe_int (fun _ _ => rfl)))
              (pe_op op_mulW (pe_ix ix_tup (pe_dget hu (pv 2) (pe_tup (pa_cons (pv 5) (pa_cons (pv 6) pa_nil))) (fun _ _ => rfl)) pe_int (fun _ _ => rfl)) (pv 8)) (nomark _)))))
          (pss_one (ps_dput hu (pv 2) (pe_tup (pa_cons (pv 5) (pa_cons (pv 6) pa_nil))) (pe_tup (pa_cons (pv 7) (pa_cons (pv 8) (pa_cons (pv 4) pa_nil)))) rfl)) pss_nil)))
      (pss_one (ps_ret (pv 2))))), ?_⟩
    intro d hd
    have s1 : Same H (upd H d (.dT [])) := same_new hd
    -- ups
    refine ⟨_, rfl, t, rfl, by omega, by omega, fun D hD => ?_⟩
    rw [show ((t : Nat) : Int).toNat = t from rfl]
    refine lc_range (lo := 0) (n := t) (fun m H' => Same (upd H d (.dT [])) H' ∧ ∃ ys, H' D = some (.lst ys) ∧ Paired (IsCond H') ys (ups m))
      ⟨same_new hD, [], upd_same, .nil⟩ (fun m H' hm ⟨sm, ys, hys, hp⟩ => ?_) (fun H' ⟨sm, ys, hys, hp⟩ => ?_)
    · rw [show (0 : Int) + (m : Int) = (m : Int) from Int.zero_add _]
      refine ⟨rfl, _, rfl, by show 2 ≤ sizeLine; decide, fun a ha => ?_⟩
      have sa := same_new (o := HO.tup [.str "up", .int (m : Int)]) ha
      generalize eHa : upd H' a (HO.tup [.str "up", .int (m : Int)]) = Ha at sa
      refine ⟨_, rfl, _, rfl, _, _, rfl, rfl, by show 5 ≤ sizeLine; decide, fun b hb => ?_⟩
      have sb := same_new (o := HO.tup [.ref a, .int (m : Int), .int ((m : Int) + 1), .int 1, .int 1]) hb
      have nb : D ≠ b := ne_of_none (sa _ _ hys) hb
      have lp := ups_conds hp
      refine ⟨ys, sb _ _ (sa _ _ hys), size4 (by omega), Same.put (Same.trans (Same.trans sm sa) sb) hD, _, upd_same, ?_⟩
      have tk : TK H' (upd (upd Ha b (HO.tup [.ref a, .int (m : Int), .int ((m : Int) + 1), .int 1, .int 1])) D (.lst (ys ++ [.ref b]))) := TK.put (Same.trans sa sb).tk fun z e => by rw [sb _ _ (sa _ _ hys)] at e; cases e
      rw [ups_succ]
      refine paired_snoc (conds_tk hp tk) ⟨b, .ref a, rfl, ?_⟩
      rw [upd_ne (Ne.symm nb), upd_same]
    · -- the loop
      have lp := ups_conds hp
      have sm0 := Same.trans s1 sm
      have lc := Paired.length pc
      have nLd : L ≠ d := ne_of_none hL hd
      refine ⟨_, rfl, _, rfl, L, D, xs, ys, rfl, rfl, sm0 _ _ hL, hys, size5 (by omega), fun J hJ => ?_⟩
      have sJ := same_new (o := HO.lst (xs ++ ys)) hJ
      generalize eHJ : upd H' J (HO.lst (xs ++ ys)) = HJ at sJ
      have hJ1 : HJ J = some (.lst (xs ++ ys)) := by rw [← eHJ]; exact upd_same
      have pcs : Paired (IsCond HJ) (xs ++ ys) (cs ++ ups t) := paired_app (conds_tk pc (Same.trans sm0 sJ).tk) (conds_tk hp sJ.tk)
      have cc := cc_all hc ht8
      have lenC : (cs ++ ups t).length = (xs ++ ys).length := (Paired.length pcs).symm
      have hdJ : HJ d = some (.dT []) := sJ _ _ (sm _ _ upd_same)
      have nJd : J ≠ d := Ne.symm (ne_of_none (sm _ _ (upd_same (H := H) (a := d) (o := .dT []))) hJ)
      -- B: all but the dict
      refine ⟨J, rfl, ⟨_, SqL.of hJ1⟩, for_list (K := K) (a := J) (xs := xs ++ ys) (fun i σ H2 => Same H H2 ∧ (∃ s4 s5 s6 s7 s8, σ = [some (.ref L), some (.int (t : Nat)), some (.ref d), some (.ref D), s4, s5, s6, s7, s8, none]) ∧ H2 J = some (.lst (xs ++ ys)) ∧ Paired (IsCond H2) (xs ++ ys) (cs ++ ups t) ∧
          ∃ kvs, H2 d = some (.dT kvs) ∧ TabH wAny H2 kvs (stepsT ((cs ++ ups t).take i)))
        ⟨Same.trans sm0 sJ, ⟨none, none, none, none, none, rfl⟩, hJ1, pcs, [], hdJ, .nil⟩ (fun i σ H2 _ ⟨_, _, h, _⟩ => SqL.of h) (fun i x σ H2 hi ⟨sm2, ⟨s4, s5, s6, s7, s8, eσ⟩, hJ2, pc2, kvs, hk2, tab⟩ => ?_) (fun σ H2 ⟨sm2, ⟨s4, s5, s6, s7, s8, eσ⟩, hJ2, pc2, kvs, hk2, tab⟩ => ?_)⟩
      · subst eσ
        obtain ⟨c, hci, a, st, rfl, ha⟩ := paired_get pc2 hi
        have hi2 := (List.getElem?_eq_some_iff.mp hi).1
        obtain ⟨c0, c1, c2, c3, bp, bq⟩ := cc c (List.mem_of_getElem? hci)
        have ltab : kvs.length ≤ 1008 := by
          rw [tab.length]
          have := steps_len ((cs ++ ups t).take i)
          rw [List.length_take] at this
          have : (xs ++ ys).length ≤ 1008 := by rw [List.length_append]; omega
          omega
        refine ⟨a, _, rfl, SqT.of ha, rfl, _, _, rfl, _, _, rfl, _, _, rfl, _, _, rfl, _, _, rfl, rfl, ?_⟩
        have etk : (cs ++ ups t).take (i + 1) = (cs ++ ups t).take i ++ [c] := by rw [List.take_add_one, hci]; rfl
        -- the store, from whatever the heap is then
        have put : better (stepsT ((cs ++ ups t).take i)) (entOf c) = true → ∀ H3, Same H2 H3 → tSeq (sDPut (tVar 2) (tTup (tCons (tVar 5) (tCons (tVar 6) tNil))) (tTup (tCons (tVar 7) (tCons (tVar 8) (tCons (tVar 4) tNil))))) tNext
            { nx := fun σ H2 => Same H H2 ∧ (∃ s4 s5 s6 s7 s8, σ = [some (.ref L), some (.int (t : Nat)), some (.ref d), some (.ref D), s4, s5, s6, s7, s8, none]) ∧ H2 J = some (.lst (xs ++ ys)) ∧ Paired (IsCond H2) (xs ++ ys) (cs ++ ups t) ∧
              ∃ kvs, H2 d = some (.dT kvs) ∧ TabH wAny H2 kvs (stepsT ((cs ++ ups t).take (i + 1))), rt := fun _ _ => False } [some (.ref L), some (.int (t : Nat)), some (.ref d), some (.ref D), some st, some (.int c.1), some (.int c.2.1), some (.int c.2.2.1), some (.int c.2.2.2), none] H3 := fun hb H3 s3 => by
          refine ⟨_, rfl, _, rfl, _, rfl, by show 3 ≤ sizeLine; decide, fun b hb3 => ?_⟩
          have sb := same_new (o := HO.tup [.int c.2.2.1, .int c.2.2.2, st]) hb3
          generalize eHb : upd H3 b (HO.tup [.int c.2.2.1, .int c.2.2.2, st]) = Hb at sb
          have hbb : Hb b = some (.tup [.int c.2.2.1, .int c.2.2.2, st]) := by rw [← eHb]; exact upd_same
          refine ⟨_, rfl, _, rfl, _, rfl, by show 2 ≤ sizeLine; decide, fun e he => ?_⟩
          have se := same_new (o := HO.tup [.int c.1, .int c.2.1]) he
          generalize eHe : upd Hb e (HO.tup [.int c.1, .int c.2.1]) = He at se
          have hee : He e = some (.tup ((kOf (c.1, c.2.1)).map kV)) := by rw [← eHe]; exact upd_same
          have s4 := Same.trans (Same.trans s3 sb) se
          have hdd := s4 _ _ hk2
          refine ⟨d, _, rfl, DPut.t hdd hee (size4 (by omega)), ?_⟩
          have tkd : TK He (upd He d (.dT (putK kvs (kOf (c.1, c.2.1)) (.ref b)))) := TK.put (TK.refl _) fun z q => by rw [hdd] at q; cases q
          have tk2 := s4.tk.trans tkd
          refine ⟨Same.put (Same.trans sm2 s4) hd, ⟨_, _, _, _, _, rfl⟩, ?_, conds_tk pc2 tk2, _, upd_same, ?_⟩
          · rw [upd_ne nJd]
            exact s4 _ _ hJ2
          · rw [etk, steps_snoc]
            have e1 : relax (stepsT ((cs ++ ups t).take i)) (entOf c) = tput (stepsT ((cs ++ ups t).take i)) (c.1, c.2.1) (c.2.2.1, c.2.2.2) := by
              unfold relax
              rw [hb]
              rfl
            rw [e1]
            exact (tab.tk stb_any tk2).put (c.1, c.2.1) ⟨b, st, rfl, tkd _ _ (se _ _ hbb), True.intro⟩
        have skip : better (stepsT ((cs ++ ups t).take i)) (entOf c) = false → ∀ H3, Same H2 H3 → Same H H3 ∧ (∃ s4' s5' s6' s7' s8', [some (V.ref L), some (.int (t : Nat)), some (.ref d), some (.ref D), some st, some (.int c.1), some (.int c.2.1), some (.int c.2.2.1), some (.int c.2.2.2), none] = [some (.ref L), some (.int (t : Nat)), some (.ref d), some (.ref D), s4', s5', s6', s7', s8', none]) ∧ H3 J = some (.lst (xs ++ ys)) ∧ Paired (IsCond H3) (xs ++ ys) (cs ++ ups t) ∧
              ∃ kvs, H3 d = some (.dT kvs) ∧ TabH wAny H3 kvs (stepsT ((cs ++ ups t).take (i + 1))) := fun hb H3 s3 => by
          refine ⟨Same.trans sm2 s3, ⟨_, _, _, _, _, rfl⟩, s3 _ _ hJ2, conds_tk pc2 s3.tk, kvs, s3 _ _ hk2, ?_⟩
          rw [etk, steps_snoc]
          have e1 : relax (stepsT ((cs ++ ups t).take i)) (entOf c) = stepsT ((cs ++ ups t).take i) := by
            unfold relax
            rw [hb]
            rfl
          rw [e1]
          exact tab.tk stb_any s3.tk
        -- (start, end) not in found
        refine ⟨_, rfl, _, rfl, by show 2 ≤ sizeLine; decide, fun e he => ?_⟩
        have se := same_new (o := HO.tup [.int c.1, .int c.2.1]) he
        generalize eHe : upd H2 e (HO.tup [.int c.1, .int c.2.1]) = He at se
        have hee : He e = some (.tup ((kOf (c.1, c.2.1)).map kV)) := by rw [← eHe]; exact upd_same
        refine ⟨_, rfl, d, _, rfl, DGet.t (se _ _ hk2) hee, _, rfl, ?_⟩
        cases hg : tget (stepsT ((cs ++ ups t).take i)) (c.1, c.2.1) with
        | none =>
          have hb : better (stepsT ((cs ++ ups t).take i)) (entOf c) = true := by
            unfold better
            rw [show (entOf c).1 = (c.1, c.2.1) from rfl, hg]
          rw [tab.none hg]
          exact iteT (iteT (put hb He se))
        | some y =>
          obtain ⟨v, hv, tv, x3, rfl, htv, _⟩ := tab.some hg
          have hb : better (stepsT ((cs ++ ups t).take i)) (entOf c) = decide (c.2.2.1 * y.2 < y.1 * c.2.2.2) := by
            unfold better
            rw [show (entOf c).1 = (c.1, c.2.1) from rfl, hg]
            rfl
          have by_ : Bd 20 y.1 ∧ Bd 20 y.2 := by
            obtain ⟨c', hc', e'⟩ := steps_in (tget_some hg)
            have := cc c' (List.mem_of_mem_take hc')
            have e2 : (c'.2.2.1, c'.2.2.2) = y := congrArg Prod.snd e'
            rw [← e2]
            exact ⟨this.2.2.2.2.1, this.2.2.2.2.2⟩
          rw [hv]
          refine iteF ⟨_, rfl, _, rfl, _, rfl, _, rfl, by show 2 ≤ sizeLine; decide, fun e2 he2 => ?_⟩
          have se2 := same_new (o := HO.tup [.int c.1, .int c.2.1]) he2
          generalize eHe2 : upd He e2 (HO.tup [.int c.1, .int c.2.1]) = He2 at se2
          have hee2 : He2 e2 = some (.tup ((kOf (c.1, c.2.1)).map kV)) := by rw [← eHe2]; exact upd_same
          have s2 := Same.trans se se2
          have g2 := DGet.t (s2 _ _ hk2) hee2
          rw [hv] at g2
          refine ⟨d, _, rfl, g2, tv, _, 1, .int y.2, rfl, rfl, SqT.of (s2 _ _ htv), atI_nat (j := 1) rfl, _, _, rfl, rfl, bp.mulW by_.2 (by decide) (by decide) (by decide), ?_⟩
          refine ⟨_, rfl, _, rfl, _, rfl, by show 2 ≤ sizeLine; decide, fun e3 he3 => ?_⟩
          have se3 := same_new (o := HO.tup [.int c.1, .int c.2.1]) he3
          generalize eHe3 : upd He2 e3 (HO.tup [.int c.1, .int c.2.1]) = He3 at se3
          have hee3 : He3 e3 = some (.tup ((kOf (c.1, c.2.1)).map kV)) := by rw [← eHe3]; exact upd_same
          have s3 := Same.trans s2 se3
          have g3 := DGet.t (s3 _ _ hk2) hee3
          rw [hv] at g3
          refine ⟨d, _, rfl, g3, tv, _, 0, .int y.1, rfl, rfl, SqT.of (s3 _ _ htv), atI_nat (j := 0) rfl, _, rfl, _, _, rfl, rfl, by_.1.mulW bq (by decide) (by decide) (by decide), _, _, rfl, rfl, _, rfl, ?_⟩
          refine ite2 (fun h => put (hb.trans h) He3 s3) (fun h => skip ?_ He3 s3)
          rw [hb]
          exact Bool.eq_false_iff.mpr h
      · subst eσ
        rw [← lenC, List.take_length] at tab
        exact ⟨_, rfl, k _ d kvs sm2 hd hk2 tab⟩
end
end Ds
set_option maxHeartbeats 4000000
namespace Ds
open PySem PySem.Spec PyProof.Rows L2
/-! ### longer -/
theorem same_lock {B H : Hp} {S : Addr} {x : HO} (s : Same B H) : Same (upd B S x) (upd H S x) := fun b o e => by
  by_cases h : b = S
  · subst h
    rw [upd_same] at e ⊢
    exact e
  · rw [upd_ne h] at e ⊢
    exact s b o e
theorem same_unlock {B H : Hp} {S : Addr} {x u : HO} (s : Same (upd B S x) H) (h : B S = some u) : Same B (upd H S u) := fun b o e => by
  by_cases z : b = S
  · subst z
    rw [h] at e
    cases e
    exact upd_same
  · rw [upd_ne z]
    exact s b o (by rw [upd_ne z]; exact e)
theorem dget_frz {H : Hp} {a b : Addr} {o : Obj} {kvs : List (List L2.Key × V)} {k : List L2.Key} (e : H a = some (.frz o (.dT kvs))) (eb : H b = some (.tup (k.map kV))) : DGet H a (.ref b) (valV kvs k) := .inr ⟨kvs, k, b, .inr ⟨o, e⟩, rfl, eb, rfl⟩
theorem tk_frz {H : Hp} {S : Addr} {o : Obj} {kvs : List (List L2.Key × V)} (h : H S = some (.dT kvs)) : TK H (upd H S (.frz o (.dT kvs))) := TK.put (TK.refl _) fun z e => by rw [h] at e; cases e
theorem tk_unfrz {H : Hp} {S : Addr} {o : Obj} {kvs : List (List L2.Key × V)} (h : H S = some (.frz o (.dT kvs))) : TK H (upd H S (.dT kvs)) := TK.put (TK.refl _) fun z e => by rw [h] at e; cases e
/-- part of the joins of w: the first j steps -/
def joinsTo (S : Tab) (w : Ent) (j : Nat) : List Ent := ((S.take j).filter fun s => decide (s.1.1 = w.1.2)).map (joinE w)
theorem joinsTo_succ {S : Tab} {w z : Ent} {j : Nat} (h : S[j]? = some z) : joinsTo S w (j + 1) = joinsTo S w j ++ (if z.1.1 = w.1.2 then [joinE w z] else []) := by
  unfold joinsTo
  rw [List.take_add_one, h, Option.toList_some, List.filter_append, List.map_append, List.filter_cons, List.filter_nil]
  by_cases e : z.1.1 = w.1.2
  · rw [if_pos (decide_eq_true e), if_pos e]
    rfl
  · rw [if_neg (by rw [decide_eq_true_eq]; exact e), if_neg e]
    rfl
def joinedTo (Wt S : Tab) (i : Nat) : List Ent := (Wt.take i).flatMap (joins S)
theorem joinedTo_succ {Wt S : Tab} {w : Ent} {i : Nat} (h : Wt[i]? = some w) : joinedTo Wt S (i + 1) = joinedTo Wt S i ++ joins S w := by
  unfold joinedTo
  rw [List.take_add_one, h, Option.toList_some, List.flatMap_append, List.flatMap_singleton]
theorem joins_of {S : Tab} {w y : Ent} (h : y ∈ joins S w) : ∃ s ∈ S, y = joinE w s := by
  unfold joins at h
  obtain ⟨s, hs, e⟩ := List.mem_map.mp h
  exact ⟨s, (List.mem_filter.mp hs).1, e.symm⟩
theorem joinedTo_of {Wt S : Tab} {i : Nat} {y : Ent} (h : y ∈ joinedTo Wt S i) : ∃ w ∈ Wt, ∃ s ∈ S, y = joinE w s := by
  unfold joinedTo at h
  obtain ⟨w, hw, e⟩ := List.mem_flatMap.mp h
  obtain ⟨s, hs, e⟩ := joins_of e
  exact ⟨w, List.mem_of_mem_take hw, s, hs, e⟩
theorem joinsTo_of {S : Tab} {w y : Ent} {j : Nat} (h : y ∈ joinsTo S w j) : ∃ s ∈ S, y = joinE w s := by
  unfold joinsTo at h
  obtain ⟨s, hs, e⟩ := List.mem_map.mp h
  exact ⟨s, List.mem_of_mem_take (List.mem_filter.mp hs).1, e.symm⟩
def BdT (n : Nat) (T : Tab) : Prop := ∀ y ∈ T, Bd n y.2.1 ∧ Bd n y.2.2
section
variable {P : Program} {w : World} {K : PySem.W.Frag} {mg : Str → Option Value} {base : Heap}
def spLonger : Sp := fun vs H Q _ => ∃ (D S : Addr) (kw ks : List (List L2.Key × V)) (Wt St : Tab) (n : Nat), vs = [.ref D, .ref S] ∧ D ≠ S ∧ H D = some (.dT kw) ∧ H S = some (.dT ks) ∧ TabH (wTup n) H kw Wt ∧ TabH wAny H ks St ∧ NoDup Wt ∧ NoDup St ∧ Small Wt ∧ Small St ∧
  BdT (20 * n) Wt ∧ BdT 20 St ∧ 1 ≤ n ∧ n ≤ 10 ∧ ∀ H' F kvs, Same H H' → H F = none → H' F = some (.dT kvs) → TabH (wTup (n + 1)) H' kvs (longerT Wt St) → Q (.ref F) H'
abbrev nLonger : List Str := ["walks", "steps", "found", "start", "middle", "p", "q", "way", "begin", "end", "own", "told"]
theorem scLonger : FnScope nLonger ["walks", "steps"] (defScope s_longer) := ⟨rfl, rfl, rfl, by decide +kernel, rfl, by decide +kernel, by decide +kernel⟩
theorem ok_longer (F : Dfn K mg "longer" "longer" s_longer) : Prm P w K mg base 1 "longer" spLonger := by
  refine F.prm scLonger (fun _ _ _ _ _ _ us hl => match us, hl with | [_, _], _ => rfl) (fun vs H Q E h => ?_) (fun f cdv A outer s H vs Q E hr h => ?_)
  · obtain ⟨D, S, _, _, _, _, _, rfl, _⟩ := h
    rfl
  · obtain ⟨D, S, kw, ks, Wt, St, n, rfl, nDS, hD, hS, tW, tS, nW, nS, smW, smS, bW, bS, n1, n10, k⟩ := h
    have nd := scLonger.nd
    have hu := hu_of hr
    refine ⟨_, pss_cons (ps_set (i := 2) nd rfl (.inl rfl) pe_dnewT)
      (pss_cons (ps_lock (ps_for PassesOwn.never rfl (pi_keys (pv 0)) (pg_tup rfl (pgs_cons (pg_name (i := 3) nd rfl (.inl rfl)) (pgs_cons (pg_name (i := 4) nd rfl (.inl rfl)) pgs_nil)))
        (pss_cons (ps_asg (pe_dget hu (pv 0) (pe_tup (pa_cons (pv 3) (pa_cons (pv 4) pa_nil))) (fun _ _ => rfl))
            (pg_tup rfl (pgs_cons (pg_name (i := 5) nd rfl (.inl rfl)) (pgs_cons (pg_name (i := 6) nd rfl (.inl rfl)) (pgs_cons (pg_name (i := 7) nd rfl (.inl rfl)) pgs_nil)))))
        (pss_one (ps_lock (ps_for PassesOwn.never rfl (pi_keys (pv 1)) (pg_tup rfl (pgs_cons (pg_name (i := 8) nd rfl (.inl rfl)) (pgs_cons (pg_name (i := 9) nd rfl (.inl rfl)) pgs_nil)))
          (pss_cons (ps_if (pt_cmpR op_ne (pv 8) (pv 4) (nomark _)) (pss_one ps_continue) pss_nil)
          (pss_cons (ps_set (i := 10) nd rfl (.inl rfl) (pe_dget hu (pv 1) (pe_tup (pa_cons (pv 8) (pa_cons (pv 9) pa_nil))) (fun _ _ => rfl)))
          (pss_cons (ps_set (i := 11) nd rfl (.inl rfl) (pe_tup (pa_cons (pe_op op_mulW (pv 5) (pe_ix ix_tup (pv 10) pe_int (fun _ _ => rfl))) (pa_cons (pe_op op_mulW (pv 6) (pe_ix ix_tup (pv 10) pe_int (fun _ _ => rfl)))
            (pa_cons (pe_op op_catA (pv 7) (pe_tup (pa_cons (pe_ix ix_tup (pv 10) pe_int (fun _ _ => rfl)) pa_nil))) pa_nil)))))
          (pss_one (ps_if (PW.pt (pw_or (pt_cmp (pc_dnotin hu (pe_tup (pa_cons (pv 3) (pa_cons (pv 9) pa_nil))) (pv 2)) (by rfl))
              (pw_or1 (pt_cmpR op_lt (pe_op op_mulW (pe_ix ix_tup (pv 11) pe_int (fun _ _ => rfl)) (pe_ix ix_tup (pe_dget hu (pv 2) (pe_tup (pa_cons (pv 3) (pa_cons (pv 9) pa_nil))) (fun _ _ => rfl)) pe_int (fun _ _ => rfl)))
                (pe_op op_mulW (pe_ix ix_tup (pe_dget hu (pv 2) (pe_tup (pa_cons (pv 3) (pa_cons (pv 9) pa_nil))) (fun _ _ => rfl)) pe_int (fun _ _ => rfl)) (pe_ix ix_tup (pv 11) pe_int (fun _ _ => rfl))) (nomark _)))))
            (pss_one (ps_dput hu (pv 2) (pe_tup (pa_cons (pv 3) (pa_cons (pv 9) pa_nil))) (pv 11) rfl)) pss_nil)))))))))))
      (pss_one (ps_ret (pv 2)))), ?_⟩
    intro F hF
    have nFD : F ≠ D := Ne.symm (ne_of_none hD hF)
    have nFS : F ≠ S := Ne.symm (ne_of_none hS hF)
    have s0 : Same H (upd H F (.dT [])) := same_new hF
    generalize eH0 : upd H F (.dT []) = H0 at s0
    have hF0 : H0 F = some (.dT []) := by rw [← eH0]; exact upd_same
    refine ⟨D, .dT kw, s0 _ _ hD, True.intro, fun od => ?_⟩
    -- B: what is known, the walks locked
    have lk := same_lock (S := D) (x := .frz od (.dT kw)) s0
    have tkL : TK H (upd H D (.frz od (.dT kw))) := tk_frz hD
    generalize eB : upd H D (.frz od (.dT kw)) = B at lk tkL
    have bF : B F = none := by rw [← eB, upd_ne nFD]; exact hF
    have bD : B D = some (.frz od (.dT kw)) := by rw [← eB]; exact upd_same
    have bS_ : B S = some (.dT ks) := by rw [← eB, upd_ne (Ne.symm nDS)]; exact hS
    have tkB : ∀ {H'}, Same B H' → TK H H' := fun {H'} s => tkL.trans s.tk
    refine ⟨_, rfl, D, od, rfl, .inr ⟨kw, upd_same, for_it walk_keysT (fun i σ H' => Same B H' ∧ (∃ s3 s4 s5 s6 s7 s8 s9 s10 s11, σ = [some (.ref D), some (.ref S), some (.ref F), s3, s4, s5, s6, s7, s8, s9, s10, s11]) ∧
        ∃ kvs, H' F = some (.dT kvs) ∧ TabH (wTup (n + 1)) H' kvs (tabOf (joinedTo Wt St i)))
      ⟨lk, ⟨none, none, none, none, none, none, none, none, none, rfl⟩, [], by rw [upd_ne nFD]; exact hF0, .nil⟩ (fun i σ H' _ ⟨sm, _⟩ => sm _ _ bD)
      (fun i x σ H1 H1' hi ⟨sm, ⟨s3, s4, s5, s6, s7, s8, s9, s10, s11, eσ⟩, kvs, hkF, tab⟩ ⟨eH, kk, v, q, hki, ex, hq⟩ => ?_) (fun σ H' ⟨sm, ⟨s3, s4, s5, s6, s7, s8, s9, s10, s11, eσ⟩, kvs, hkF, tab⟩ => ?_)⟩⟩
    · subst eH ex eσ
      obtain ⟨y, hy, rfl, hv, tv, xw, rfl, htv, w0, ws, rfl, hws, lws⟩ := tW.at_ nW hki
      have ym := List.mem_of_getElem? hy
      have by_ := bW y ym
      have hq : H1' q = some (.tup [.int y.1.1, .int y.1.2]) := hq
      refine ⟨q, _, rfl, SqT.of hq, rfl, _, _, rfl, _, _, rfl, rfl, ?_⟩
      -- p, q, way = walks[start, middle]
      refine ⟨_, rfl, _, rfl, _, rfl, by show 2 ≤ sizeLine; decide, fun e he => ?_⟩
      have se := same_new (o := HO.tup [.int y.1.1, .int y.1.2]) he
      generalize eHe : upd H1' e (HO.tup [.int y.1.1, .int y.1.2]) = He at se
      have hee : He e = some (.tup ((kOf y.1).map kV)) := by rw [← eHe]; exact upd_same
      have sme := Same.trans sm se
      have g1 := dget_frz (sme _ _ bD) hee
      rw [hv] at g1
      refine ⟨D, _, rfl, g1, tv, _, rfl, SqT.of (tkB sme _ _ htv), rfl, _, _, rfl, _, _, rfl, _, _, rfl, rfl, ?_⟩
      -- the steps, locked
      refine ⟨S, .dT ks, sme _ _ bS_, True.intro, fun od2 => ?_⟩
      have lk2 := same_lock (S := S) (x := .frz od2 (.dT ks)) sme
      have tkL2 : TK B (upd B S (.frz od2 (.dT ks))) := tk_frz bS_
      have tkE : TK He (upd He S (.frz od2 (.dT ks))) := tk_frz (sme _ _ bS_)
      generalize eB2 : upd B S (.frz od2 (.dT ks)) = B2 at lk2 tkL2
      have b2F : B2 F = none := by rw [← eB2, upd_ne nFS]; exact bF
      have b2S : B2 S = some (.frz od2 (.dT ks)) := by rw [← eB2]; exact upd_same
      have tkB2 : ∀ {H'}, Same B2 H' → TK H H' := fun {H'} s => (tkL.trans tkL2).trans s.tk
      refine ⟨_, rfl, S, od2, rfl, .inr ⟨ks, upd_same, for_it walk_keysT (fun j σ H' => Same B2 H' ∧ (∃ s8 s9 s10 s11, σ = [some (.ref D), some (.ref S), some (.ref F), some (.int y.1.1), some (.int y.1.2), some (.int y.2.1), some (.int y.2.2), some (.ref w0), s8, s9, s10, s11]) ∧
          ∃ kvs, H' F = some (.dT kvs) ∧ TabH (wTup (n + 1)) H' kvs (tabOf (joinedTo Wt St i ++ joinsTo St y j)))
        ⟨lk2, ⟨s8, s9, s10, s11, rfl⟩, kvs, by rw [upd_ne nFS]; exact se _ _ hkF, ?_⟩ (fun j σ H' _ ⟨sm, _⟩ => sm _ _ b2S)
        (fun j x σ H2 H2' hj ⟨sm2, ⟨s8, s9, s10, s11, eσ⟩, kvs, hkF, tab⟩ ⟨eH, kk, v2, q2, hkj, ex, hq2⟩ => ?_) (fun σ H2 ⟨sm2, ⟨s8, s9, s10, s11, eσ⟩, kvs, hkF, tab⟩ => ?_)⟩⟩
      · rw [show joinsTo St y 0 = [] from rfl, List.append_nil]
        exact tab.tk stb_tup (se.tk.trans tkE)
      · subst eH ex eσ
        obtain ⟨z, hz, rfl, hv2, tz, xz, rfl, htz, _⟩ := tS.at_ nS hkj
        have zm := List.mem_of_getElem? hz
        have bz := bS z zm
        have hq2 : H2' q2 = some (.tup [.int z.1.1, .int z.1.2]) := hq2
        refine ⟨q2, _, rfl, SqT.of hq2, rfl, _, _, rfl, _, _, rfl, rfl, ?_⟩
        have js := joinsTo_succ (w := y) hz
        -- if begin != middle: continue
        refine ⟨_, rfl, _, rfl, rfl, _, rfl, ite2 (fun hne => ?_) (fun hne => ?_)⟩
        · have ne : ¬ z.1.1 = y.1.2 := fun e => by rw [e, decide_eq_true rfl] at hne; cases hne
          rw [if_neg ne, List.append_nil] at js
          exact ⟨sm2, ⟨_, _, _, _, rfl⟩, kvs, hkF, by rw [js]; exact tab⟩
        · have eq : z.1.1 = y.1.2 := by
            by_cases c : z.1.1 = y.1.2
            · exact c
            · refine absurd ?_ hne
              rw [decide_eq_false fun q => c (V.int.inj q)]
              rfl
          rw [if_pos eq] at js
          have js2 : tabOf (joinedTo Wt St i ++ joinsTo St y (j + 1)) = relax (tabOf (joinedTo Wt St i ++ joinsTo St y j)) (joinE y z) := by rw [js, ← List.append_assoc, tabOf_snoc]
          have memT : ∀ u ∈ tabOf (joinedTo Wt St i ++ joinsTo St y j), ∃ a ∈ Wt, ∃ b ∈ St, u = joinE a b := fun u hu => (List.mem_append.mp (tabOf_mem hu)).elim joinedTo_of fun m => let ⟨b, hb, e⟩ := joinsTo_of m; ⟨y, ym, b, hb, e⟩
          have bdT : ∀ u ∈ tabOf (joinedTo Wt St i ++ joinsTo St y j), Bd (20 * n + 20) u.2.1 ∧ Bd (20 * n + 20) u.2.2 := fun u hu => by
            obtain ⟨a, ha, b, hb, rfl⟩ := memT u hu
            exact ⟨(bW a ha).1.mul (bS b hb).1, (bW a ha).2.mul (bS b hb).2⟩
          have smT : Small (tabOf (joinedTo Wt St i ++ joinsTo St y j)) := fun u hu => by
            obtain ⟨a, ha, b, hb, rfl⟩ := memT u hu
            have h1 := smW a ha
            have h2 := smS b hb
            exact ⟨h1.1, h1.2.1, h2.2.2.1, h2.2.2.2⟩
          have ltab : kvs.length ≤ 100 := by
            rw [tab.length]
            exact small_len (tabOf_nd _) smT
          have bt1 : Bd (20 * n + 20) (y.2.1 * z.2.1) := by_.1.mul bz.1
          have bt2 : Bd (20 * n + 20) (y.2.2 * z.2.2) := by_.2.mul bz.2
          generalize eT : tabOf (joinedTo Wt St i ++ joinsTo St y j) = T0 at js2 bdT tab
          -- own = steps[begin, end]
          refine ⟨_, rfl, _, rfl, _, rfl, by show 2 ≤ sizeLine; decide, fun e he => ?_⟩
          have se3 := same_new (o := HO.tup [.int z.1.1, .int z.1.2]) he
          generalize eHe3 : upd H2' e (HO.tup [.int z.1.1, .int z.1.2]) = H3 at se3
          have hee3 : H3 e = some (.tup ((kOf z.1).map kV)) := by rw [← eHe3]; exact upd_same
          have sm3 := Same.trans sm2 se3
          have g3 := dget_frz (sm3 _ _ b2S) hee3
          rw [hv2] at g3
          refine ⟨S, _, rfl, g3, ?_⟩
          have t3 := tkB2 sm3
          -- told
          refine ⟨_, rfl, _, rfl, tz, _, 0, .int z.2.1, rfl, rfl, SqT.of (t3 _ _ htz), atI_nat (j := 0) rfl, _, _, rfl, rfl, by_.1.mulW bz.1 (by omega) (by decide) (by omega), ?_⟩
          refine ⟨_, rfl, _, rfl, tz, _, 1, .int z.2.2, rfl, rfl, SqT.of (t3 _ _ htz), atI_nat (j := 1) rfl, _, _, rfl, rfl, by_.2.mulW bz.2 (by omega) (by decide) (by omega), ?_⟩
          refine ⟨_, rfl, _, rfl, tz, _, 2, xz, rfl, rfl, SqT.of (t3 _ _ htz), atI_nat (j := 2) rfl, by show 1 ≤ sizeLine; decide, fun c1 hc1 => ?_⟩
          have sc1 := same_new (o := HO.tup [xz]) hc1
          generalize eHc1 : upd H3 c1 (HO.tup [xz]) = H4 at sc1
          have hcc : H4 c1 = some (.tup [xz]) := by rw [← eHc1]; exact upd_same
          refine ⟨w0, c1, ws, [xz], rfl, rfl, SqT.of ((t3.trans sc1.tk) _ _ hws), SqT.of hcc, size5 (by rw [lws]; show n + 1 ≤ 100000; omega), fun h => ?_, fun _ h => (nomatch h), fun _ _ c2 hc2 => ?_⟩
          · rw [h] at lws
            simp at lws
            omega
          have sc2 := same_new (o := HO.tup (ws ++ [xz])) hc2
          generalize eHc2 : upd H4 c2 (HO.tup (ws ++ [xz])) = H5 at sc2
          have hcc2 : H5 c2 = some (.tup (ws ++ [xz])) := by rw [← eHc2]; exact upd_same
          refine ⟨by show 3 ≤ sizeLine; decide, fun tt htt => ?_⟩
          have stt := same_new (o := HO.tup [.int (y.2.1 * z.2.1), .int (y.2.2 * z.2.2), .ref c2]) htt
          generalize eHtt : upd H5 tt (HO.tup [.int (y.2.1 * z.2.1), .int (y.2.2 * z.2.2), .ref c2]) = H6 at stt
          have htt6 : H6 tt = some (.tup [.int (y.2.1 * z.2.1), .int (y.2.2 * z.2.2), .ref c2]) := by rw [← eHtt]; exact upd_same
          have s26 : Same H2' H6 := Same.trans (Same.trans (Same.trans se3 sc1) sc2) stt
          have sm6 := Same.trans sm2 s26
          have hF6 := s26 _ _ hkF
          have tri6 : Tri (wTup (n + 1)) H6 (.ref tt) (joinE y z).2 := ⟨tt, .ref c2, rfl, htt6, c2, ws ++ [xz], rfl, stt _ _ hcc2, by rw [List.length_append, lws]; rfl⟩
          clear eHe3 eHc1 eHc2 eHtt
          -- the store; nothing
          have put : better T0 (joinE y z) = true → ∀ H7, Same H6 H7 → tSeq (sDPut (tVar 2) (tTup (tCons (tVar 3) (tCons (tVar 9) tNil))) (tVar 11)) tNext
              { nx := fun σ H' => Same B2 H' ∧ (∃ s8 s9 s10 s11, σ = [some (.ref D), some (.ref S), some (.ref F), some (.int y.1.1), some (.int y.1.2), some (.int y.2.1), some (.int y.2.2), some (.ref w0), s8, s9, s10, s11]) ∧
                ∃ kvs, H' F = some (.dT kvs) ∧ TabH (wTup (n + 1)) H' kvs (tabOf (joinedTo Wt St i ++ joinsTo St y (j + 1))), rt := fun _ _ => False }
              [some (.ref D), some (.ref S), some (.ref F), some (.int y.1.1), some (.int y.1.2), some (.int y.2.1), some (.int y.2.2), some (.ref w0), some (.int z.1.1), some (.int z.1.2), some (.ref tz), some (.ref tt)] H7 := fun hb H7 s7 => by
            refine ⟨_, rfl, _, rfl, _, rfl, _, rfl, by show 2 ≤ sizeLine; decide, fun e he => ?_⟩
            have se := same_new (o := HO.tup [.int y.1.1, .int z.1.2]) he
            generalize eHe : upd H7 e (HO.tup [.int y.1.1, .int z.1.2]) = H8 at se
            have hee : H8 e = some (.tup ((kOf (y.1.1, z.1.2)).map kV)) := by rw [← eHe]; exact upd_same
            have s8 := Same.trans s7 se
            have hdd := s8 _ _ hF6
            refine ⟨F, _, rfl, DPut.t hdd hee (size4 (by omega)), ?_⟩
            have tkd : TK H8 (upd H8 F (.dT (putK kvs (kOf (y.1.1, z.1.2)) (.ref tt)))) := TK.put (TK.refl _) fun z q => by rw [hdd] at q; cases q
            refine ⟨Same.put (Same.trans sm6 s8) b2F, ⟨_, _, _, _, rfl⟩, _, upd_same, ?_⟩
            rw [js2]
            have e1 : relax T0 (joinE y z) = tput T0 (y.1.1, z.1.2) (joinE y z).2 := by
              unfold relax
              rw [hb]
              rfl
            rw [e1]
            exact (tab.tk stb_tup ((s26.tk.trans s8.tk).trans tkd)).put (y.1.1, z.1.2) (tri6.tk stb_tup (s8.tk.trans tkd))
          have skip : better T0 (joinE y z) = false → ∀ H7, Same H6 H7 → Same B2 H7 ∧ (∃ s8 s9 s10 s11, [some (V.ref D), some (.ref S), some (.ref F), some (.int y.1.1), some (.int y.1.2), some (.int y.2.1), some (.int y.2.2), some (.ref w0), some (.int z.1.1), some (.int z.1.2), some (.ref tz), some (.ref tt)] = [some (.ref D), some (.ref S), some (.ref F), some (.int y.1.1), some (.int y.1.2), some (.int y.2.1), some (.int y.2.2), some (.ref w0), s8, s9, s10, s11]) ∧
              ∃ kvs, H7 F = some (.dT kvs) ∧ TabH (wTup (n + 1)) H7 kvs (tabOf (joinedTo Wt St i ++ joinsTo St y (j + 1))) := fun hb H7 s7 => by
            refine ⟨Same.trans sm6 s7, ⟨_, _, _, _, rfl⟩, kvs, s7 _ _ hF6, ?_⟩
            rw [js2]
            have e1 : relax T0 (joinE y z) = T0 := by
              unfold relax
              rw [hb]
              rfl
            rw [e1]
            exact tab.tk stb_tup (s26.tk.trans s7.tk)
          -- (start, end) not in found
          refine ⟨_, rfl, _, rfl, by show 2 ≤ sizeLine; decide, fun e he => ?_⟩
          have se := same_new (o := HO.tup [.int y.1.1, .int z.1.2]) he
          generalize eHe : upd H6 e (HO.tup [.int y.1.1, .int z.1.2]) = H7 at se
          have hee : H7 e = some (.tup ((kOf (y.1.1, z.1.2)).map kV)) := by rw [← eHe]; exact upd_same
          refine ⟨_, rfl, F, _, rfl, DGet.t (se _ _ hF6) hee, _, rfl, ?_⟩
          cases hg : tget T0 (y.1.1, z.1.2) with
          | none =>
            have hb : better T0 (joinE y z) = true := by
              unfold better
              rw [show (joinE y z).1 = (y.1.1, z.1.2) from rfl, hg]
            rw [tab.none hg]
            exact iteT (iteT (put hb H7 se))
          | some o =>
            obtain ⟨v3, hv3, to_, x3, rfl, hto, _⟩ := tab.some hg
            have bo := bdT _ (tget_some hg)
            have hb : better T0 (joinE y z) = decide (y.2.1 * z.2.1 * o.2 < o.1 * (y.2.2 * z.2.2)) := by
              unfold better
              rw [show (joinE y z).1 = (y.1.1, z.1.2) from rfl, hg]
              rfl
            rw [hv3]
            refine iteF ⟨_, rfl, tt, _, 0, .int (y.2.1 * z.2.1), rfl, rfl, SqT.of (se _ _ htt6), atI_nat (j := 0) rfl, ?_⟩
            refine ⟨_, rfl, _, rfl, _, rfl, by show 2 ≤ sizeLine; decide, fun e2 he2 => ?_⟩
            have se2 := same_new (o := HO.tup [.int y.1.1, .int z.1.2]) he2
            generalize eHe2 : upd H7 e2 (HO.tup [.int y.1.1, .int z.1.2]) = H8 at se2
            have hee2 : H8 e2 = some (.tup ((kOf (y.1.1, z.1.2)).map kV)) := by rw [← eHe2]; exact upd_same
            have s8 := Same.trans se se2
            have g2 := DGet.t (s8 _ _ hF6) hee2
            rw [hv3] at g2
            refine ⟨F, _, rfl, g2, to_, _, 1, .int o.2, rfl, rfl, SqT.of (s8 _ _ (s26.tk _ _ hto)), atI_nat (j := 1) rfl, _, _, rfl, rfl, bt1.mulW bo.2 (by omega) (by omega) (by omega), ?_⟩
            refine ⟨_, rfl, _, rfl, _, rfl, by show 2 ≤ sizeLine; decide, fun e3 he3 => ?_⟩
            have se4 := same_new (o := HO.tup [.int y.1.1, .int z.1.2]) he3
            generalize eHe4 : upd H8 e3 (HO.tup [.int y.1.1, .int z.1.2]) = H9 at se4
            have hee4 : H9 e3 = some (.tup ((kOf (y.1.1, z.1.2)).map kV)) := by rw [← eHe4]; exact upd_same
            have s9' := Same.trans s8 se4
            have g4 := DGet.t (s9' _ _ hF6) hee4
            rw [hv3] at g4
            refine ⟨F, _, rfl, g4, to_, _, 0, .int o.1, rfl, rfl, SqT.of (s9' _ _ (s26.tk _ _ hto)), atI_nat (j := 0) rfl, ?_⟩
            refine ⟨_, rfl, tt, _, 1, .int (y.2.2 * z.2.2), rfl, rfl, SqT.of (s9' _ _ htt6), atI_nat (j := 1) rfl, _, _, rfl, rfl, bo.1.mulW bt2 (by omega) (by omega) (by omega), _, _, rfl, rfl, _, rfl, ?_⟩
            refine ite2 (fun h => put (hb.trans h) H9 s9') (fun h => skip ?_ H9 s9')
            rw [hb]
            exact Bool.eq_false_iff.mpr h
      · -- the inner loop's end: the steps are free again
        subst eσ
        rw [tS.length] at tab
        have ej : joinsTo St y St.length = joins St y := by
          unfold joinsTo joins
          rw [List.take_length]
        rw [ej] at tab
        have hS2 := sm2 _ _ b2S
        refine ⟨hS2, same_unlock (x := .frz od2 (.dT ks)) (by rw [eB2]; exact sm2) bS_, ⟨_, _, _, _, _, _, _, _, _, rfl⟩, kvs, by rw [upd_ne nFS]; exact hkF, ?_⟩
        rw [joinedTo_succ hy]
        exact tab.tk stb_tup (tk_unfrz hS2)
    · subst eσ
      rw [tW.length] at tab
      have ej : tabOf (joinedTo Wt St Wt.length) = longerT Wt St := by
        unfold joinedTo longerT
        rw [List.take_length]
      rw [ej] at tab
      have hD2 := sm _ _ bD
      refine ⟨hD2, _, rfl, k _ F kvs (same_unlock (x := .frz od (.dT kw)) (by rw [eB]; exact sm) hD) hF (by rw [upd_ne nFD]; exact hkF) (tab.tk stb_tup (tk_unfrz hD2))⟩
end
end Ds
set_option maxHeartbeats 4000000
namespace Ds
open PySem PySem.Spec PyProof.Rows L2
/-- a dict comprehension over a walk -/
theorem dc_it {J : It} {n : Nat} {G : Hp → Prop} {Y : Nat → Hp → V → Hp → Prop} (w : Walk J n G Y) {i0 : Nat} {tk tv : TE} {σ : L2.St} {H1 : Hp} {D : Addr} {Qd : Hp → Prop} (Pv : Nat → Hp → Prop) (h0 : Pv 0 (upd H1 D (.dT []))) (hG : ∀ i H, i ≤ n → Pv i H → G H)
    (hs : ∀ i x H H', i < n → Pv i H → Y i H x H' → tk ((wipe σ [i0]).set i0 (some x)) H' fun y H4 => tv ((wipe σ [i0]).set i0 (some x)) H4 fun z H5 => ∃ kvs k b, y = .ref b ∧ H5 b = some (.tup (k.map kV)) ∧ H5 D = some (.dT kvs) ∧ kvs.length < sizeLine ∧ Pv (i + 1) (upd H5 D (.dT (putK kvs k z))))
    (hd : ∀ H, Pv n H → Qd H) :
    ∃ W : Nat → Nat → Hp → Prop, (∃ m, W 0 m (upd H1 D (.dT []))) ∧ ∀ i m H, W i m H → (J.stop i H ∧ Qd H) ∨ (J.go i H ∧ ∃ Nx : Hp → Prop, (∀ H', Nx H' → ∃ m', m' < m ∧ W (i + 1) m' H') ∧ ∀ x H', J.yld i H x H' →
      tk ((wipe σ [i0]).set i0 (some x)) H' fun y H4 => tv ((wipe σ [i0]).set i0 (some x)) H4 fun z H5 => ∃ kvs k b, y = .ref b ∧ H5 b = some (.tup (k.map kV)) ∧ H5 D = some (.dT kvs) ∧ kvs.length < sizeLine ∧ Nx (upd H5 D (.dT (putK kvs k z)))) := by
  refine ⟨fun i m H => m = n - i ∧ i ≤ n ∧ Pv i H, ⟨n, by simp, Nat.zero_le _, h0⟩, ?_⟩
  rintro i m H ⟨em, hi, p⟩
  have g := hG i H hi p
  by_cases lt : i < n
  · exact .inr ⟨w.goes i H lt g, Pv (i + 1), fun H' p' => ⟨n - (i + 1), by omega, rfl, lt, p'⟩, fun x H' y => hs i x H H' lt p (w.yields i H x H' lt g y)⟩
  · have e : i = n := by omega
    subst e
    exact .inl ⟨w.stops H g, hd H p⟩
theorem tput_new {T : Tab} {k : Ky} {v : Int × Int} (h : ∀ y ∈ T, y.1 ≠ k) : tput T k v = T ++ [(k, v)] := by
  rcases tput_cases T k v with ⟨_, y, hy, e⟩ | ⟨e, _⟩
  · exact absurd e (h y hy)
  · exact e
theorem nodup_take {T : Tab} (h : NoDup T) {i : Nat} {y : Ent} (e : T[i]? = some y) : ∀ z ∈ T.take i, z.1 ≠ y.1 := by
  intro z hz q
  obtain ⟨j, hj, ej⟩ := List.mem_take_iff_getElem.mp hz
  have hi := (List.getElem?_eq_some_iff.mp e)
  obtain ⟨li, ei⟩ := hi
  have lj : j < T.length := by omega
  unfold NoDup at h
  have a : (T.map (·.1))[j]'(by rw [List.length_map]; exact lj) = (T.map (·.1))[i]'(by rw [List.length_map]; exact li) := by
    rw [List.getElem_map, List.getElem_map, ej, ei, q]
  have := (List.getElem_inj h).mp a
  omega
/-! ### the rows -/
theorem wlk_facts {C : List Cond} (hC : CC C) : ∀ {n : Nat} {s e : Int} {x : Int × Int}, Wlk C n s e x → 0 ≤ s ∧ s ≤ 9 ∧ 0 ≤ e ∧ e ≤ 9 ∧ Bd (20 * (n + 1)) x.1 ∧ Bd (20 * (n + 1)) x.2
  | 0, s, e, x, w => hC _ w
  | n + 1, s, e, x, ⟨m, y, z, w, hz, ex⟩ => by
    obtain ⟨a1, a2, _, _, a3, a4⟩ := wlk_facts hC w
    obtain ⟨_, _, b1, b2, b3, b4⟩ := hC _ hz
    subst ex
    exact ⟨a1, a2, b1, b2, (a3.mul b3).mono (by omega), (a4.mul b4).mono (by omega)⟩
theorem cc_pos {C : List Cond} (hC : CC C) : ∀ c ∈ C, 0 < c.2.2.1 ∧ 0 < c.2.2.2 := fun c h => ⟨(hC c h).2.2.2.2.1.1, (hC c h).2.2.2.2.2.1⟩
theorem row_facts {C : List Cond} (hC : CC C) (n : Nat) : NoDup (rowT (stepsT C) n) ∧ Small (rowT (stepsT C) n) ∧ BdT (20 * (n + 1)) (rowT (stepsT C) n) := by
  have ok := row_ok (cc_pos hC) n
  refine ⟨ok.nd, fun y hy => ?_, fun y hy => ?_⟩
  · obtain ⟨a, b, c, d, _⟩ := wlk_facts hC (ok.of y hy)
    exact ⟨a, b, c, d⟩
  · exact (wlk_facts hC (ok.of y hy)).2.2.2.2
/-- a list of dicts: the rows -/
def RowsH (H : Hp) (xs : List V) (C : List Cond) (m : Nat) : Prop := xs.length = m ∧ ∀ (i : Nat) x, xs[i]? = some x → ∃ d kvs, x = .ref d ∧ H d = some (.dT kvs) ∧ TabH (wTup (i + 1)) H kvs (rowT (stepsT C) i)
theorem RowsH.same {H H' : Hp} {xs : List V} {C : List Cond} {m : Nat} (h : RowsH H xs C m) (s : Same H H') : RowsH H' xs C m := ⟨h.1, fun i x e => let ⟨d, kvs, ex, hd, t⟩ := h.2 i x e; ⟨d, kvs, ex, s _ _ hd, t.tk stb_tup s.tk⟩⟩
theorem RowsH.lst {H : Hp} {xs ys zs : List V} {C : List Cond} {m : Nat} {L : Addr} (h : RowsH H xs C m) (hL : H L = some (.lst ys)) : RowsH (upd H L (.lst zs)) xs C m := by
  refine ⟨h.1, fun i x e => ?_⟩
  obtain ⟨d, kvs, ex, hd, t⟩ := h.2 i x e
  refine ⟨d, kvs, ex, ?_, t.tk stb_tup (TK.put (TK.refl _) fun z q => by rw [hL] at q; cases q)⟩
  rw [upd_ne (fun z => by rw [z, hL] at hd; cases hd)]
  exact hd
section
variable {P : Program} {w : World} {K : PySem.W.Frag} {mg : Str → Option Value} {base : Heap}
/-! ### walks_of -/
def spWalks : Sp := fun vs H Q _ => ∃ (S : Addr) (ks : List (List L2.Key × V)) (C : List Cond) (m : Nat), vs = [.ref S, .int (m : Nat)] ∧ H S = some (.dT ks) ∧ TabH wAny H ks (stepsT C) ∧ CC C ∧ 1 ≤ m ∧ m ≤ 10 ∧
  ∀ H' L xs, Same H H' → H L = none → H' L = some (.lst xs) → RowsH H' xs C m → Q (.ref L) H'
abbrev nWalks : List Str := ["steps", "many", "rows", "pair"]
theorem scWalks : FnScope nWalks ["steps", "many"] (defScope s_walks_of) := ⟨rfl, rfl, rfl, by decide +kernel, rfl, by decide +kernel, by decide +kernel⟩
def tvWalks (K : PySem.W.Frag) : TE := tTup (tCons (tOp (rIxT K) (tDGet (tVar 0) (tVar 3)) (tC (.int 0))) (tCons (tOp (rIxT K) (tDGet (tVar 0) (tVar 3)) (tC (.int 1))) (tCons (tTup (tCons (tOp (rIxT K) (tDGet (tVar 0) (tVar 3)) (tC (.int 2))) tNil)) tNil)))
theorem ok_walks (T : Txt mg) (F : Dfn K mg "walks_of" "walks_of" s_walks_of) (GL : Prm P w K mg base 1 "longer" spLonger) : Prm P w K mg base 2 "walks_of" spWalks := by
  refine F.prm scWalks (fun _ _ _ _ _ _ us hl => match us, hl with | [_, _], _ => rfl) (fun vs H Q E h => ?_) (fun f cdv A outer s H vs Q E hr h => ?_)
  · obtain ⟨S, _, _, _, rfl, _⟩ := h
    rfl
  · obtain ⟨S, ks, C, m, rfl, hS, tS, cC, m1, m10, k⟩ := h
    have nd := scWalks.nd
    have hu := hu_of hr
    obtain ⟨nS, smS, bS⟩ := row_facts cC 0
    have nS : NoDup (stepsT C) := nS
    refine ⟨_, pss_cons (ps_set (i := 2) nd rfl (.inl rfl) (pe_lst (pa_cons (pe_lock (pe_dcT (i0 := 3) (x0 := "pair") (tk := tVar 3) (tv := tvWalks K) (Nat.lt_of_succ_lt hu) rfl nd (pi_keys (pv 0)) (blkOk_by (N := nWalks) (sc := defScope s_walks_of) (by decide +kernel))
        (fun _ _ _ _ _ => pg_name (i := 3) nd rfl (.inl rfl)) (fun _ _ _ _ _ => pv 3)
        (fun _ _ _ _ _ => pe_tup (pa_cons (pe_ix ix_tup (pe_dget hu (pv 0) (pv 3) (fun _ _ => rfl)) pe_int (fun _ _ => rfl)) (pa_cons (pe_ix ix_tup (pe_dget hu (pv 0) (pv 3) (fun _ _ => rfl)) pe_int (fun _ _ => rfl))
          (pa_cons (pe_tup (pa_cons (pe_ix ix_tup (pe_dget hu (pv 0) (pv 3) (fun _ _ => rfl)) pe_int (fun _ _ => rfl)) pa_nil)) pa_nil)))))) pa_nil)))
      (pss_cons (ps_while PassesOwn.never (pt_cmpR op_lt (pe_callB call_len_seq (by rfl) T.len PySem.boot_len (pa_cons (pv 2) pa_nil)) (pv 1) (nomark _))
        (pss_one (ps_expr (pe_bm PySem.F.plainAttrs_list PySem.F.slot_list_append PySem.F.type_list_append mt_append (pv 2)
          (pa_cons (pe_prm GL hr (by decide) (by rfl) (pa_cons (pe_ix ix_list (pv 2) (pe_un un_neg pe_int) (fun _ _ => rfl)) (pa_cons (pv 0) pa_nil))) pa_nil)))))
      (pss_one (ps_ret (pv 2)))), ?_⟩
    -- the first row
    refine ⟨S, .dT ks, hS, True.intro, fun od => ?_⟩
    have tkL : TK H (upd H S (.frz od (.dT ks))) := tk_frz hS
    generalize eB : upd H S (.frz od (.dT ks)) = B at tkL
    have bS_ : B S = some (.frz od (.dT ks)) := by rw [← eB]; exact upd_same
    refine ⟨_, rfl, S, od, rfl, .inr ⟨ks, bS_, fun D hD => ?_⟩⟩
    have nDS : D ≠ S := Ne.symm (ne_of_none bS_ hD)
    have hD0 : H D = none := by rw [← eB, upd_ne nDS] at hD; exact hD
    refine dc_it walk_keysT (fun i H' => Same B H' ∧ ∃ kvs, H' D = some (.dT kvs) ∧ TabH (wTup 1) H' kvs ((stepsT C).take i)) ⟨same_new hD, [], upd_same, .nil⟩ (fun i H' _ ⟨sm, _⟩ => sm _ _ bS_)
      (fun i x H1 H1' hi ⟨sm, kvs, hk, tab⟩ ⟨eH, kk, v, q, hki, ex, hq⟩ => ?_) (fun H1 ⟨sm, kvs, hk, tab⟩ => ?_)
    · subst eH ex
      obtain ⟨y, hy, rfl, hv, tv, xw, rfl, htv, _⟩ := tS.at_ nS hki
      have t1 := tkL.trans sm.tk
      have g1 := dget_frz (sm _ _ bS_) hq
      rw [hv] at g1
      refine ⟨_, rfl, _, rfl, _, rfl, S, _, rfl, g1, tv, _, 0, .int y.2.1, rfl, rfl, SqT.of (t1 _ _ htv), atI_nat (j := 0) rfl, ?_⟩
      refine ⟨_, rfl, _, rfl, S, _, rfl, g1, tv, _, 1, .int y.2.2, rfl, rfl, SqT.of (t1 _ _ htv), atI_nat (j := 1) rfl, ?_⟩
      refine ⟨_, rfl, _, rfl, S, _, rfl, g1, tv, _, 2, xw, rfl, rfl, SqT.of (t1 _ _ htv), atI_nat (j := 2) rfl, by show 1 ≤ sizeLine; decide, fun a ha => ?_⟩
      have sa := same_new (o := HO.tup [xw]) ha
      generalize eHa : upd H1' a (HO.tup [xw]) = Ha at sa
      have haa : Ha a = some (.tup [xw]) := by rw [← eHa]; exact upd_same
      refine ⟨by show 3 ≤ sizeLine; decide, fun b hb => ?_⟩
      have sb := same_new (o := HO.tup [.int y.2.1, .int y.2.2, .ref a]) hb
      generalize eHb : upd Ha b (HO.tup [.int y.2.1, .int y.2.2, .ref a]) = Hb at sb
      have hbb : Hb b = some (.tup [.int y.2.1, .int y.2.2, .ref a]) := by rw [← eHb]; exact upd_same
      have s2 := Same.trans sa sb
      have hkb := s2 _ _ hk
      have tk2 : TK Hb (upd Hb D (.dT (putK kvs (kOf y.1) (.ref b)))) := TK.put (TK.refl _) fun z e => by rw [hkb] at e; cases e
      refine ⟨kvs, kOf y.1, q, rfl, s2 _ _ hq, hkb, ?_, Same.put (Same.trans sm s2) hD, _, upd_same, ?_⟩
      · have l1 := tab.length
        have l2 := small_len nS smS
        rw [List.length_take] at l1
        exact size4 (by omega)
      · have e1 : (stepsT C).take (i + 1) = tput ((stepsT C).take i) y.1 y.2 := by
          rw [tput_new (nodup_take nS hy), List.take_add_one, hy]
          rfl
        rw [e1]
        exact (tab.tk stb_tup (s2.tk.trans tk2)).put y.1 ⟨b, .ref a, rfl, tk2 _ _ hbb, a, [xw], rfl, tk2 _ _ (sb _ _ haa), rfl⟩
    · have e1 := tS.length
      rw [e1, List.take_length] at tab
      have hS1 := sm _ _ bS_
      refine ⟨hS1, ?_⟩
      have sU : Same H (upd H1 S (.dT ks)) := same_unlock (x := .frz od (.dT ks)) (by rw [eB]; exact sm) hS
      have tU : TabH (wTup 1) (upd H1 S (.dT ks)) kvs (stepsT C) := tab.tk stb_tup (tk_unfrz hS1)
      have hDU : (upd H1 S (.dT ks)) D = some (.dT kvs) := by rw [upd_ne nDS]; exact hk
      generalize upd H1 S (.dT ks) = HU at sU tU hDU
      refine ⟨by show 1 ≤ sizeLine; decide, fun L hL => ?_⟩
      have sL := same_new (o := HO.lst [.ref D]) hL
      have hL0 := Same.free sU hL
      -- the while
      refine ⟨fun μ σ H' => σ = [some (.ref S), some (.int (m : Nat)), some (.ref L), none] ∧ Same H H' ∧ ∃ n xs, μ = m - n ∧ 1 ≤ n ∧ n ≤ m ∧ H' L = some (.lst xs) ∧ RowsH H' xs C n ∧ ∀ x ∈ xs, x ≠ V.ref S, ⟨m - 1, rfl, Same.trans sU sL, 1, [.ref D], rfl, Nat.le_refl _, m1, upd_same, ⟨rfl, fun i x e => ?_⟩, fun x hx e => ?_⟩, fun μ σ H' ⟨eσ, sm, n, xs, eμ, n1, nm, hLx, rw_, ne_⟩ => ?_⟩
      · cases i with
        | zero =>
          have e2 : V.ref D = x := by simpa using e
          exact ⟨D, kvs, e2.symm, sL _ _ hDU, tU.tk stb_tup sL.tk⟩
        | succ i => simp at e
      · rw [List.mem_singleton.mp hx] at e
        exact nDS (V.ref.inj e)
      · subst eσ eμ
        have ln := rw_.1
        refine ⟨_, rfl, L, xs, rfl, .inl (SqL.of hLx), _, rfl, _, _, rfl, rfl, _, rfl, ite2 (fun lt => ?_) (fun lt => ?_)⟩
        · have lt : (xs.length : Int) < (m : Nat) := of_decide_eq_true lt
          obtain ⟨ys, y, rfl⟩ : ∃ ys y, xs = ys ++ [y] := by
            rcases List.eq_nil_or_concat xs with e | ⟨ys, y, e⟩
            · rw [e] at ln
              simp at ln
              omega
            · exact ⟨ys, y, by simpa using e⟩
          have ly : ys.length + 1 = n := by simpa using ln
          obtain ⟨d, kvd, rfl, hd, td⟩ := rw_.2 ys.length y (by simp)
          have sS := sm _ _ hS
          have ndS : d ≠ S := fun z => ne_ (.ref d) (by simp) (by rw [z])
          refine ⟨fun σ' H' => ∃ μ', μ' < m - n ∧ σ' = [some (.ref S), some (.int (m : Nat)), some (.ref L), none] ∧ Same H H' ∧ ∃ n xs, μ' = m - n ∧ 1 ≤ n ∧ n ≤ m ∧ H' L = some (.lst xs) ∧ RowsH H' xs C n ∧ ∀ x ∈ xs, x ≠ V.ref S, fun σ' H' h => h, ?_⟩
          obtain ⟨nR, smR, bR⟩ := row_facts cC ys.length
          refine ⟨_, rfl, .inl ⟨rfl, _, SqL.of hLx⟩, _, rfl, 1, rfl, L, _, -1, _, rfl, rfl, SqL.of hLx, atI_last _ _, _, rfl, ?_⟩
          refine ⟨d, S, kvd, ks, _, _, ys.length + 1, rfl, ndS, hd, sS, td, tS.tk stb_any sm.tk, nR, nS, smR, smS, bR, bS, by omega, by omega, fun H2 F kvF s2 hF hF2 tF => ?_⟩
          have hL2 := s2 _ _ hLx
          refine ⟨L, _, _, rfl, rfl, hL2, by rw [List.length_append]; exact size4 (by show ys.length + 1 < 100000; omega), ?_⟩
          refine ⟨m - (n + 1), by have : n < m := by rw [ln] at lt; omega
                                  omega, rfl, Same.put (Same.trans sm s2) hL0, n + 1, _, rfl, by omega, by rw [ln] at lt; omega, upd_same, ?_⟩
          have r2 := (rw_.same s2).lst (zs := ys ++ [V.ref d] ++ [V.ref F]) hL2
          refine ⟨⟨by rw [List.length_append, r2.1]; rfl, fun i x e => ?_⟩, fun x hx e => ?_⟩
          rotate_left
          · rcases List.mem_append.mp hx with hx | hx
            · exact ne_ x hx e
            · rw [List.mem_singleton.mp hx] at e
              exact ne_of_none sS hF (V.ref.inj e).symm
          by_cases li : i < (ys ++ [V.ref d]).length
          · rw [List.getElem?_append_left li] at e
            exact r2.2 i x e
          · have ei : i = (ys ++ [V.ref d]).length := by
              have := (List.getElem?_eq_some_iff.mp e).1
              rw [List.length_append] at this
              simp at this li ⊢
              omega
            rw [ei, List.getElem?_append_right (Nat.le_refl _), Nat.sub_self] at e
            have e2 : V.ref F = x := by simpa using e
            have nFL : F ≠ L := Ne.symm (ne_of_none hLx hF)
            refine ⟨F, kvF, e2.symm, by rw [upd_ne nFL]; exact hF2, ?_⟩
            have e3 : i = ys.length + 1 := by rw [ei, List.length_append]; rfl
            rw [e3]
            exact tF.tk stb_tup (TK.put (TK.refl _) fun z q => by rw [hL2] at q; cases q)
        · have lt : ¬ (xs.length : Int) < (m : Nat) := fun z => lt (decide_eq_true z)
          have e : n = m := by rw [ln] at lt; omega
          subst e
          exact ⟨_, rfl, k H' L xs sm hL0 hLx rw_⟩
end
end Ds
set_option maxHeartbeats 4000000
namespace Ds
open PySem PySem.Spec PyProof.Rows L2
section
variable {P : Program} {w : World} {K : PySem.W.Frag} {mg : Str → Option Value} {base : Heap}
/-! ### round_in -/
def spRound : Sp := fun vs H Q _ => ∃ (L : Addr) (xs : List V) (C : List Cond) (m : Nat), vs = [.ref L] ∧ H L = some (.lst xs) ∧ RowsH H xs C m ∧ CC C ∧ ∀ H' v, Same H H' → (((∃ n, n < m ∧ hasR (rowT (stepsT C) n)) ∧ v ≠ .non) ∨ ((¬ ∃ n, n < m ∧ hasR (rowT (stepsT C) n)) ∧ v = .non)) → Q v H'
abbrev nRound : List Str := ["rows", "walks", "start", "end", "p", "q", "way"]
theorem scRound : FnScope nRound ["rows"] (defScope s_round_in) := ⟨rfl, rfl, rfl, by decide +kernel, rfl, by decide +kernel, by decide +kernel⟩
theorem ok_round (F : Dfn K mg "round_in" "round_in" s_round_in) : Prm P w K mg base 1 "round_in" spRound := by
  refine F.prm scRound (fun _ _ _ _ _ _ us hl => match us, hl with | [_], _ => rfl) (fun vs H Q E h => ?_) (fun f cdv A outer s H vs Q E hr h => ?_)
  · obtain ⟨L, _, _, _, rfl, _⟩ := h
    rfl
  · obtain ⟨L, xs, C, m, rfl, hL, rw_, cC, k⟩ := h
    have nd := scRound.nd
    have hu := hu_of hr
    refine ⟨_, pss_cons (ps_for PassesOwn.never rfl (pi_list (pv 0)) (pg_name (i := 1) nd rfl (.inl rfl))
        (pss_one (ps_lock (ps_for PassesOwn.never rfl (pi_keys (pv 1)) (pg_tup rfl (pgs_cons (pg_name (i := 2) nd rfl (.inl rfl)) (pgs_cons (pg_name (i := 3) nd rfl (.inl rfl)) pgs_nil)))
          (pss_cons (ps_asg (pe_dget hu (pv 1) (pe_tup (pa_cons (pv 2) (pa_cons (pv 3) pa_nil))) (fun _ _ => rfl))
            (pg_tup rfl (pgs_cons (pg_name (i := 4) nd rfl (.inl rfl)) (pgs_cons (pg_name (i := 5) nd rfl (.inl rfl)) (pgs_cons (pg_name (i := 6) nd rfl (.inl rfl)) pgs_nil)))))
          (pss_one (ps_if (PW.pt (pw_and (pt_cmpR op_eq (pv 2) (pv 3) (nomark _)) (pw_and1 (pt_cmpR op_lt (pv 4) (pv 5) (nomark _))))) (pss_one (ps_ret (pv 6))) pss_nil)))))))
      (pss_one (ps_ret pe_non)), ?_⟩
    have lx := rw_.1
    refine ⟨_, rfl, L, rfl, ⟨xs, SqL.of hL⟩, for_list (K := K) (a := L) (xs := xs) (fun i σ H' => Same H H' ∧ (∃ s1 s2 s3 s4 s5 s6, σ = [some (.ref L), s1, s2, s3, s4, s5, s6]) ∧ ∀ n, n < i → ¬ hasR (rowT (stepsT C) n))
      ⟨Same.refl H, ⟨none, none, none, none, none, none, rfl⟩, fun n h => absurd h (Nat.not_lt_zero n)⟩ (fun i σ H' _ ⟨sm, _⟩ => SqL.of (sm _ _ hL)) (fun i x σ H1 hi ⟨sm, ⟨s1, s2, s3, s4, s5, s6, eσ⟩, no⟩ => ?_) (fun σ H1 ⟨sm, ⟨s1, s2, s3, s4, s5, s6, eσ⟩, no⟩ => ?_)⟩
    · subst eσ
      obtain ⟨d, kvs, rfl, hd, tab⟩ := rw_.2 i x hi
      obtain ⟨nR, _, _⟩ := row_facts cC i
      have im : i < m := by
        have := (List.getElem?_eq_some_iff.mp hi).1
        omega
      refine ⟨d, .dT kvs, sm _ _ hd, True.intro, fun od => ?_⟩
      have lk := same_lock (S := d) (x := .frz od (.dT kvs)) sm
      have tkL : TK H (upd H d (.frz od (.dT kvs))) := tk_frz hd
      generalize eB : upd H d (.frz od (.dT kvs)) = B at lk tkL
      have bD : B d = some (.frz od (.dT kvs)) := by rw [← eB]; exact upd_same
      have un : ∀ {H'}, Same B H' → Same H (upd H' d (.dT kvs)) := fun {H'} s => same_unlock (x := .frz od (.dT kvs)) (by rw [eB]; exact s) hd
      refine ⟨_, rfl, d, od, rfl, .inr ⟨kvs, upd_same, for_it walk_keysT (fun j σ H' => Same B H' ∧ (∃ s2 s3 s4 s5 s6, σ = [some (.ref L), some (.ref d), s2, s3, s4, s5, s6]) ∧ ∀ j' y, j' < j → (rowT (stepsT C) i)[j']? = some y → ¬ (y.1.1 = y.1.2 ∧ y.2.1 < y.2.2))
        ⟨lk, ⟨s2, s3, s4, s5, s6, rfl⟩, fun j' y h => absurd h (Nat.not_lt_zero j')⟩ (fun j σ H' _ ⟨sm, _⟩ => sm _ _ bD) (fun j x σ H2 H2' hj ⟨sm2, ⟨s2, s3, s4, s5, s6, eσ⟩, no2⟩ ⟨eH, kk, v, q, hkj, ex, hq⟩ => ?_) (fun σ H2 ⟨sm2, ⟨s2, s3, s4, s5, s6, eσ⟩, no2⟩ => ?_)⟩⟩
      · subst eH ex eσ
        obtain ⟨y, hy, rfl, hv, tv, xw, rfl, htv, w0, ws, rfl, hws, lws⟩ := tab.at_ nR hkj
        have hq : H2' q = some (.tup [.int y.1.1, .int y.1.2]) := hq
        refine ⟨q, _, rfl, SqT.of hq, rfl, _, _, rfl, _, _, rfl, rfl, ?_⟩
        refine ⟨_, rfl, _, rfl, _, rfl, by show 2 ≤ sizeLine; decide, fun e he => ?_⟩
        have se := same_new (o := HO.tup [.int y.1.1, .int y.1.2]) he
        generalize eHe : upd H2' e (HO.tup [.int y.1.1, .int y.1.2]) = He at se
        have hee : He e = some (.tup ((kOf y.1).map kV)) := by rw [← eHe]; exact upd_same
        have sme := Same.trans sm2 se
        have g1 := dget_frz (sme _ _ bD) hee
        rw [hv] at g1
        refine ⟨d, _, rfl, g1, tv, _, rfl, SqT.of ((tkL.trans sme.tk) _ _ htv), rfl, _, _, rfl, _, _, rfl, _, _, rfl, rfl, ?_⟩
        have go : ¬ (y.1.1 = y.1.2 ∧ y.2.1 < y.2.2) → ∀ j' y', j' < j + 1 → (rowT (stepsT C) i)[j']? = some y' → ¬ (y'.1.1 = y'.1.2 ∧ y'.2.1 < y'.2.2) := fun hn j' y' lt e' => by
          by_cases c : j' = j
          · rw [c, hy] at e'
            cases e'
            exact hn
          · exact no2 j' y' (by omega) e'
        refine ⟨_, rfl, _, rfl, rfl, _, rfl, ite2 (fun e1 => ?_) (fun e1 => iteF ⟨sme, ⟨_, _, _, _, _, rfl⟩, go fun z => e1 ?_⟩)⟩
        · have e1 : y.1.1 = y.1.2 := V.int.inj (of_decide_eq_true e1)
          refine ⟨_, rfl, _, rfl, _, _, rfl, rfl, _, rfl, ite2 (fun e2 => ?_) (fun e2 => ⟨sme, ⟨_, _, _, _, _, rfl⟩, go fun z => e2 (decide_eq_true z.2)⟩)⟩
          have e2 : y.2.1 < y.2.2 := of_decide_eq_true e2
          exact ⟨_, rfl, sme _ _ bD, k _ _ (un sme) (.inl ⟨⟨i, im, y, List.mem_of_getElem? hy, e1, e2⟩, fun z => (nomatch z)⟩)⟩
        · rw [z.1]
          exact decide_eq_true rfl
      · subst eσ
        refine ⟨sm2 _ _ bD, un sm2, ⟨_, _, _, _, _, _, rfl⟩, fun n hn => ?_⟩
        by_cases c : n = i
        · rw [c]
          rintro ⟨y, hy, hh⟩
          obtain ⟨j, lj, ej⟩ := List.mem_iff_getElem.mp hy
          exact no2 j y (by rw [tab.length]; exact lj) (by rw [List.getElem?_eq_getElem lj, ej]) hh
        · exact no n (by omega)
    · refine k H1 .non sm (.inr ⟨?_, rfl⟩)
      rintro ⟨n, hn, hh⟩
      exact no n (by omega) hh
/-! ### least_ratios -/
def spRatios : Sp := fun vs H Q _ => ∃ (L I : Addr) (xs : List V) (C : List Cond) (m : Nat) (is : List Int), vs = [.ref L, .ref I] ∧ H L = some (.lst xs) ∧ RowsH H xs C m ∧ CC C ∧ m ≤ 10 ∧ H I = some (.lst (is.map V.int)) ∧ is.length ≤ 1000 ∧
  ∀ H' G ys, Same H H' → H G = none → H' G = some (.lst ys) → ys.length = is.length → (∀ y ∈ ys, PQ 200 H' y) → Q (.ref G) H'
abbrev nRatios : List Str := ["rows", "indices", "found", "index", "here", "walks", "start", "end", "p", "q", "way"]
theorem scRatios : FnScope nRatios ["rows", "indices"] (defScope s_least_ratios) := ⟨rfl, rfl, rfl, by decide +kernel, rfl, by decide +kernel, by decide +kernel⟩
theorem PQ.tk {n : Nat} {H H' : Hp} {v : V} (h : PQ n H v) (s : TK H H') : PQ n H' v := let ⟨a, p, q, e, h1, h2⟩ := h; ⟨a, p, q, e, s _ _ h1, h2⟩
theorem ok_ratios (F : Dfn K mg "least_ratios" "least_ratios" s_least_ratios) (GR : Prm P w K mg base 2 "reduced" spReduced) : Prm P w K mg base 3 "least_ratios" spRatios := by
  refine F.prm scRatios (fun _ _ _ _ _ _ us hl => match us, hl with | [_, _], _ => rfl) (fun vs H Q E h => ?_) (fun f cdv A outer s H vs Q E hr h => ?_)
  · obtain ⟨L, I, _, _, _, _, rfl, _⟩ := h
    rfl
  · obtain ⟨L, I, xs, C, m, is, rfl, hL, rw_, cC, m10, hI, lis, k⟩ := h
    have nd := scRatios.nd
    have hu := hu_of hr
    refine ⟨_, pss_cons (ps_set (i := 2) nd rfl (.inl rfl) (pe_lst pa_nil))
      (pss_cons (ps_for PassesOwn.never rfl (pi_list (pv 1)) (pg_name (i := 3) nd rfl (.inl rfl))
        (pss_cons (ps_set (i := 4) nd rfl (.inl rfl) (pe_tup (pa_cons pe_int (pa_cons pe_int pa_nil))))
        (pss_cons (ps_for PassesOwn.never rfl (pi_list (pv 0)) (pg_name (i := 5) nd rfl (.inl rfl))
          (pss_one (ps_lock (ps_for PassesOwn.never rfl (pi_keys (pv 5)) (pg_tup rfl (pgs_cons (pg_name (i := 6) nd rfl (.inl rfl)) (pgs_cons (pg_name (i := 7) nd rfl (.inl rfl)) pgs_nil)))
            (pss_cons (ps_asg (pe_dget hu (pv 5) (pe_tup (pa_cons (pv 6) (pa_cons (pv 7) pa_nil))) (fun _ _ => rfl))
              (pg_tup rfl (pgs_cons (pg_name (i := 8) nd rfl (.inl rfl)) (pgs_cons (pg_name (i := 9) nd rfl (.inl rfl)) (pgs_cons (pg_name (i := 10) nd rfl (.inl rfl)) pgs_nil)))))
            (pss_one (ps_if (PW.pt (pw_and (pt_cmpR op_eq (pv 6) (pv 3) (nomark _)) (pw_and1 (pt_cmpR op_lt (pe_op op_mulW (pv 8) (pe_ix ix_tup (pv 4) pe_int (fun _ _ => rfl))) (pe_op op_mulW (pe_ix ix_tup (pv 4) pe_int (fun _ _ => rfl)) (pv 9)) (nomark _)))))
              (pss_one (ps_set (i := 4) nd rfl (.inl rfl) (pe_tup (pa_cons (pv 8) (pa_cons (pv 9) pa_nil))))) pss_nil)))))))
        (pss_one (ps_expr (pe_bm PySem.F.plainAttrs_list PySem.F.slot_list_append PySem.F.type_list_append mt_append (pv 2)
          (pa_cons (pe_prm GR hr (by decide) (by rfl) (pa_cons (pe_ix ix_tup (pv 4) pe_int (fun _ _ => rfl)) (pa_cons (pe_ix ix_tup (pv 4) pe_int (fun _ _ => rfl)) pa_nil))) pa_nil)))))))
      (pss_one (ps_ret (pv 2)))), ?_⟩
    refine ⟨Nat.zero_le _, fun G hG => ?_⟩
    have sG := same_new (o := HO.lst []) hG
    refine ⟨_, rfl, I, rfl, ⟨_, SqL.of (sG _ _ hI)⟩, for_list (K := K) (a := I) (xs := is.map V.int) (fun i σ H' => Same H H' ∧ (∃ s3 s4 s5 s6 s7 s8 s9 s10, σ = [some (.ref L), some (.ref I), some (.ref G), s3, s4, s5, s6, s7, s8, s9, s10]) ∧ ∃ ys, H' G = some (.lst ys) ∧ ys.length = i ∧ ∀ y ∈ ys, PQ 200 H' y)
      ⟨sG, ⟨none, none, none, none, none, none, none, none, rfl⟩, [], upd_same, rfl, fun y h => (nomatch h)⟩ (fun i σ H' _ ⟨sm, _⟩ => SqL.of (sm _ _ hI)) (fun i x σ H1 hi ⟨sm, ⟨s3, s4, s5, s6, s7, s8, s9, s10, eσ⟩, ys, hys, ly, py⟩ => ?_) (fun σ H1 ⟨sm, ⟨s3, s4, s5, s6, s7, s8, s9, s10, eσ⟩, ys, hys, ly, py⟩ => ?_)⟩
    · subst eσ
      rw [List.getElem?_map] at hi
      obtain ⟨ix, hix, rfl⟩ := Option.map_eq_some_iff.mp hi
      have li := (List.getElem?_eq_some_iff.mp hix).1
      refine ⟨by show 2 ≤ sizeLine; decide, fun e he => ?_⟩
      have se := same_new (o := HO.tup [.int 1, .int 1]) he
      generalize eHe : upd H1 e (HO.tup [.int 1, .int 1]) = Hc at se
      have hee : Hc e = some (.tup [.int 1, .int 1]) := by rw [← eHe]; exact upd_same
      have smc := Same.trans sm se
      have hLc := smc _ _ hL
      have rwc := rw_.same smc
      have p0 : PQ 200 Hc (.ref e) := ⟨e, 1, 1, rfl, hee, Bd.one.mono (by decide), Bd.one.mono (by decide)⟩
      -- over the rows: what is known stays, here is a pair
      refine ⟨_, rfl, L, rfl, ⟨xs, SqL.of hLc⟩, for_list (K := K) (a := L) (xs := xs) (fun n σ H' => Same Hc H' ∧ ∃ h s5 s6 s7 s8 s9 s10, σ = [some (.ref L), some (.ref I), some (.ref G), some (.int ix), some h, s5, s6, s7, s8, s9, s10] ∧ PQ 200 H' h)
        ⟨Same.refl Hc, _, s5, s6, s7, s8, s9, s10, rfl, p0⟩ (fun n σ H' _ ⟨sm, _⟩ => SqL.of (sm _ _ hLc)) (fun n x σ H2 hn ⟨sm2, h, s5, s6, s7, s8, s9, s10, eσ, ph⟩ => ?_) (fun σ H2 ⟨sm2, h, s5, s6, s7, s8, s9, s10, eσ, ph⟩ => ?_)⟩
      · subst eσ
        obtain ⟨d, kvs, rfl, hd, tab⟩ := rwc.2 n x hn
        obtain ⟨nR, _, bR⟩ := row_facts cC n
        have nm : n < m := by
          have := (List.getElem?_eq_some_iff.mp hn).1
          have := rwc.1
          omega
        refine ⟨d, .dT kvs, sm2 _ _ hd, True.intro, fun od => ?_⟩
        have lk := same_lock (S := d) (x := .frz od (.dT kvs)) sm2
        have tkL : TK Hc (upd Hc d (.frz od (.dT kvs))) := tk_frz hd
        have tkH2 : TK H2 (upd H2 d (.frz od (.dT kvs))) := tk_frz (sm2 _ _ hd)
        generalize eB : upd Hc d (.frz od (.dT kvs)) = B at lk tkL
        have bD : B d = some (.frz od (.dT kvs)) := by rw [← eB]; exact upd_same
        have un : ∀ {H'}, Same B H' → Same Hc (upd H' d (.dT kvs)) := fun {H'} s => same_unlock (x := .frz od (.dT kvs)) (by rw [eB]; exact s) hd
        refine ⟨_, rfl, d, od, rfl, .inr ⟨kvs, upd_same, for_it walk_keysT (fun j σ H' => Same B H' ∧ ∃ h s6 s7 s8 s9 s10, σ = [some (.ref L), some (.ref I), some (.ref G), some (.int ix), some h, some (.ref d), s6, s7, s8, s9, s10] ∧ PQ 200 H' h)
          ⟨lk, h, s6, s7, s8, s9, s10, rfl, ph.tk tkH2⟩ (fun j σ H' _ ⟨sm, _⟩ => sm _ _ bD) (fun j x σ H3 H3' hj ⟨sm3, h, s6, s7, s8, s9, s10, eσ, ph⟩ ⟨eH, kk, v, q, hkj, ex, hq⟩ => ?_) (fun σ H3 ⟨sm3, h, s6, s7, s8, s9, s10, eσ, ph⟩ => ?_)⟩⟩
        · subst eH ex eσ
          obtain ⟨y, hy, rfl, hv, tv, xw, rfl, htv, _⟩ := tab.at_ nR hkj
          have by_ := bR y (List.mem_of_getElem? hy)
          have b1 : Bd 200 y.2.1 := by_.1.mono (by omega)
          have b2 : Bd 200 y.2.2 := by_.2.mono (by omega)
          have hq : H3' q = some (.tup [.int y.1.1, .int y.1.2]) := hq
          refine ⟨q, _, rfl, SqT.of hq, rfl, _, _, rfl, _, _, rfl, rfl, ?_⟩
          refine ⟨_, rfl, _, rfl, _, rfl, by show 2 ≤ sizeLine; decide, fun e1 he1 => ?_⟩
          have se1 := same_new (o := HO.tup [.int y.1.1, .int y.1.2]) he1
          generalize eHe1 : upd H3' e1 (HO.tup [.int y.1.1, .int y.1.2]) = He1 at se1
          have hee1 : He1 e1 = some (.tup ((kOf y.1).map kV)) := by rw [← eHe1]; exact upd_same
          have sme := Same.trans sm3 se1
          have g1 := dget_frz (sme _ _ bD) hee1
          rw [hv] at g1
          refine ⟨d, _, rfl, g1, tv, _, rfl, SqT.of ((tkL.trans sme.tk) _ _ htv), rfl, _, _, rfl, _, _, rfl, _, _, rfl, rfl, ?_⟩
          have ph1 := ph.tk se1.tk
          obtain ⟨ha, hp, hq', rfl, hha, bp, bq⟩ := ph1
          have keep : Same B He1 ∧ ∃ h s6' s7' s8' s9' s10', [some (V.ref L), some (.ref I), some (.ref G), some (.int ix), some (.ref ha), some (.ref d), some (.int y.1.1), some (.int y.1.2), some (.int y.2.1), some (.int y.2.2), some xw] = [some (V.ref L), some (.ref I), some (.ref G), some (.int ix), some h, some (.ref d), s6', s7', s8', s9', s10'] ∧ PQ 200 He1 h :=
            ⟨sme, _, _, _, _, _, _, rfl, ha, hp, hq', rfl, hha, bp, bq⟩
          refine ⟨_, rfl, _, rfl, rfl, _, rfl, ite2 (fun _ => ?_) (fun _ => iteF keep)⟩
          refine ⟨_, rfl, _, rfl, ha, _, 1, .int hq', rfl, rfl, SqT.of hha, atI_nat (j := 1) rfl, _, _, rfl, rfl, b1.mulW bq (by decide) (by decide) (by decide), ?_⟩
          refine ⟨_, rfl, ha, _, 0, .int hp, rfl, rfl, SqT.of hha, atI_nat (j := 0) rfl, _, rfl, _, _, rfl, rfl, bp.mulW b2 (by decide) (by decide) (by decide), _, _, rfl, rfl, _, rfl, ite2 (fun _ => ?_) (fun _ => keep)⟩
          refine ⟨_, rfl, _, rfl, by show 2 ≤ sizeLine; decide, fun e2 he2 => ?_⟩
          have se2 := same_new (o := HO.tup [.int y.2.1, .int y.2.2]) he2
          exact ⟨Same.trans sme se2, _, _, _, _, _, _, rfl, e2, _, _, rfl, upd_same, b1, b2⟩
        · subst eσ
          exact ⟨sm3 _ _ bD, un sm3, h, _, _, _, _, _, _, rfl, ph.tk (tk_unfrz (sm3 _ _ bD))⟩
      · subst eσ
        obtain ⟨ha, hp, hq', rfl, hha, bp, bq⟩ := ph
        have s12 := Same.trans se sm2
        have smH2 := Same.trans sm s12
        have hys2 := s12 _ _ hys
        refine ⟨_, rfl, .inl ⟨rfl, _, SqL.of hys2⟩, ?_⟩
        refine ⟨_, rfl, ha, _, 0, .int hp, rfl, rfl, SqT.of hha, atI_nat (j := 0) rfl, _, rfl, ha, _, 1, .int hq', rfl, rfl, SqT.of hha, atI_nat (j := 1) rfl, hp, hq', rfl, bp, bq, fun H3 r s3 hr3 pr => ?_⟩
        have hys3 := s3 _ _ hys2
        have tk3 : TK H3 (upd H3 G (.lst (ys ++ [.ref r]))) := TK.put (TK.refl _) fun z q => by rw [hys3] at q; cases q
        refine ⟨G, ys, _, rfl, rfl, hys3, size4 (by omega), Same.put (Same.trans smH2 s3) hG, ⟨_, _, _, _, _, _, _, _, rfl⟩, _, upd_same, by rw [List.length_append, ly]; rfl, fun y hy => ?_⟩
        rcases List.mem_append.mp hy with hy | hy
        · exact (py y hy).tk ((s12.tk.trans s3.tk).trans tk3)
        · rw [List.mem_singleton.mp hy]
          exact pr.tk tk3
    · subst eσ
      exact ⟨_, rfl, k H1 G ys sm hG hys (by rw [ly, List.length_map]) py⟩
/-! ### fit -/
def spFit : Sp := fun vs H Q _ => ∃ (v : V) (rs : List Res), vs = [v] ∧ IsRs H v rs ∧ (∀ r ∈ rs, GoodR r) ∧ rs.length ≤ 8 ∧
  ∀ H' r x (z : Str), Same H H' → H' r = some (.tup [.str z, x]) → ((z = "round" ∧ HasRound rs) ∨ (z = "divisors" ∧ ¬ HasRound rs)) → Q (.ref r) H'
abbrev nFit : List Str := ["results", "seen", "top", "rows", "way"]
theorem scFit : FnScope nFit ["results"] (defScope s_fit) := ⟨rfl, rfl, rfl, by decide +kernel, rfl, by decide +kernel, by decide +kernel⟩
theorem ok_fit (T : Txt mg) (F : Dfn K mg "fit" "fit" s_fit) (G1 : Prm P w K mg base 1 "seen_in" spSeen) (G2 : Prm P w K mg base 1 "top_of" spTop) (G3 : Prm P w K mg base 1 "least_steps" spLeast) (G4 : Prm P w K mg base 2 "walks_of" spWalks)
    (G5 : Prm P w K mg base 1 "round_in" spRound) (G6 : Prm P w K mg base 3 "least_ratios" spRatios) (G7 : Prm P w K mg base 2 "whole_numbers" (spWhole K)) : Prm P w K mg base 4 "fit" spFit := by
  refine F.prm scFit (fun _ _ _ _ _ _ us hl => match us, hl with | [_], _ => rfl) (fun vs H Q E h => ?_) (fun f cdv A outer s H vs Q E hr h => ?_)
  · obtain ⟨v, rs, rfl, _⟩ := h
    rfl
  · obtain ⟨v, rs, rfl, hR, hg, lr, k⟩ := h
    have nd := scFit.nd
    refine ⟨_, pss_cons (ps_set (i := 1) nd rfl (.inl rfl) (pe_prm G1 hr (by decide) (by rfl) (pa_cons (pv 0) pa_nil)))
      (pss_cons (ps_set (i := 2) nd rfl (.inl rfl) (pe_prm G2 hr (by decide) (by rfl) (pa_cons (pv 1) pa_nil)))
      (pss_cons (ps_set (i := 3) nd rfl (.inl rfl) (pe_prm G4 hr (by decide) (by rfl) (pa_cons (pe_prm G3 hr (by decide) (by rfl) (pa_cons (pv 1) (pa_cons (pv 2) pa_nil))) (pa_cons (pe_op op_add (pv 2) pe_int) pa_nil))))
      (pss_cons (ps_set (i := 4) nd rfl (.inl rfl) (pe_prm G5 hr (by decide) (by rfl) (pa_cons (pv 3) pa_nil)))
      (pss_cons (ps_if (pt_cmpR op_notN (pv 4) pe_non (nomark _)) (pss_one (ps_ret (pe_tup (pa_cons pe_str (pa_cons (pv 4) pa_nil))))) pss_nil)
      (pss_one (ps_ret (pe_tup (pa_cons pe_str (pa_cons (pe_prm G7 hr (by decide) (by rfl) (pa_cons (pe_prm G6 hr (by decide) (by rfl) (pa_cons (pv 3)
        (pa_cons (pe_listRg rfl (by rfl) T.list (prg_1 (by rfl) T.range (pe_op op_add (pv 2) pe_int))) pa_nil))) pa_nil)) pa_nil))))))))), ?_⟩
    refine ⟨_, rfl, v, rs, rfl, hR, hg, lr, fun H1 L xs s1 _ hL pc => ?_⟩
    have okc : ∀ c ∈ seenL rs, CondOk c := fun c hc => seen_ok hg hc
    have lxs : xs.length ≤ 1000 := by
      rw [Paired.length pc]
      have := seen_len hg
      omega
    refine ⟨_, rfl, L, xs, _, rfl, hL, pc, okc, lxs, fun H2 t s2 ht t8 => ?_⟩
    refine ⟨_, rfl, _, rfl, L, xs, _, t, rfl, s2 _ _ hL, conds_tk pc s2.tk, okc, lxs, t8, fun H3 d ks s3 _ hd tS => ?_⟩
    refine ⟨_, rfl, _, _, rfl, rfl, d, ks, _, t + 1, rfl, hd, tS, cc_all okc t8, by omega, by omega, fun H4 M rows s4 _ hM rw_ => ?_⟩
    refine ⟨_, rfl, M, rows, _, _, rfl, hM, rw_, cc_all okc t8, fun H5 wv s5 way => ?_⟩
    have s05 := Same.trans (Same.trans (Same.trans (Same.trans s1 s2) s3) s4) s5
    have tell := rows_tell hg ht
    have lt1 : (∃ n, n < t + 1 ∧ hasR (rowT (stepsT (seenL rs ++ ups t)) n)) ↔ HasRound rs := by
      rw [← tell]
      exact ⟨fun ⟨n, a, b⟩ => ⟨n, by omega, b⟩, fun ⟨n, a, b⟩ => ⟨n, by omega, b⟩⟩
    rw [lt1] at way
    refine ⟨_, rfl, rfl, _, rfl, ?_⟩
    rcases way with ⟨yes, ne⟩ | ⟨no, e⟩
    · rw [decide_eq_false ne]
      refine iteT ⟨_, rfl, by show 2 ≤ sizeLine; decide, fun r hr' => k _ r wv "round" (Same.trans s05 (same_new hr')) upd_same (.inl ⟨rfl, yes⟩)⟩
    · rw [e, decide_eq_true rfl]
      refine iteF ?_
      refine ⟨_, rfl, _, rfl, _, _, rfl, rfl, _, rfl, RgOk.of_le (by decide) (by omega) (by decide) (by omega), fun R hR' => ?_⟩
      have sR := same_new (o := HO.lst (rgV 0 ((t : Nat) + 1))) hR'
      have eR : rgV 0 (((t : Nat) : Int) + 1) = ((List.range (t + 1)).map fun i : Nat => (i : Int)).map V.int := by
        unfold rgV
        rw [show ((((t : Nat) : Int) + 1) - 0).toNat = t + 1 by omega, List.map_map]
        refine List.map_congr_left fun i _ => ?_
        show V.int (0 + (i : Int)) = V.int (i : Int)
        rw [Int.zero_add]
      have hRR : (upd H5 R (HO.lst (rgV 0 ((t : Nat) + 1)))) R = some (.lst (((List.range (t + 1)).map fun i : Nat => (i : Int)).map V.int)) := by rw [upd_same, eR]
      generalize upd H5 R (HO.lst (rgV 0 ((t : Nat) + 1))) = H6 at sR hRR
      have s46 := Same.trans s5 sR
      refine ⟨M, R, rows, _, _, _, rfl, s46 _ _ hM, rw_.same s46, cc_all okc t8, by omega, hRR, by rw [List.length_map, List.length_range]; omega, fun H7 Gx ys s7 _ hG ly py => ?_⟩
      rw [List.length_map, List.length_range] at ly
      refine ⟨Gx, ys, rfl, hG, by omega, by omega, py, fun H8 wn s8 => ?_⟩
      refine ⟨by show 2 ≤ sizeLine; decide, fun r hr' => k _ r wn "divisors" (Same.trans (Same.trans (Same.trans (Same.trans s05 sR) s7) s8) (same_new hr')) upd_same (.inr ⟨rfl, no⟩)⟩
end
end Ds
set_option maxHeartbeats 4000000
namespace Ds
open PySem PySem.Spec PyProof.Rows L2
theorem kII {K : PySem.W.Frag} : PySem.W.kitOne K (.type "int") (.type "int") = some true := kit_ty (by decide +kernel)
theorem kIB {K : PySem.W.Frag} : PySem.W.kitOne K (.type "int") (.type "bool") = some false := kit_ty (by decide +kernel)
theorem kTT {K : PySem.W.Frag} : PySem.W.kitOne K (.type "tuple") (.type "tuple") = some true := kit_ty (by decide +kernel)
section
variable {P : Program} {w : World} {K : PySem.W.Frag} {mg : Str → Option Value} {base : Heap}
/-! ### is_whole, both -/
def spInt : Sp := fun vs H Q _ => ∃ i lo hi : Int, vs = [.int i, .int lo, .int hi] ∧ Q (.bl (decide (lo ≤ i) && decide (i ≤ hi))) H
theorem chain_end {Q : VK} {H : Hp} {a b : Bool} {t : Prop} (h : Q (.bl (a && b)) H) (ht : a = true → Q (.bl b) H → t) : if a = true then t else Q (.bl false) H := by
  cases a with
  | true => exact iteT (ht rfl h)
  | false => exact iteF h
theorem scWholeM : FnScope ["value", "low", "high"] ["value", "low", "high"] (defScope s_is_whole_methods) := ⟨rfl, rfl, rfl, by decide +kernel, rfl, by decide +kernel, by decide +kernel⟩
theorem ok_wholeM (T : Txt mg) (F : Dfn K mg "is_whole_methods" "is_whole" s_is_whole_methods) : Prm P w K mg base 1 "is_whole_methods" spInt := by
  refine F.prm scWholeM (fun _ _ _ _ _ _ us hl => match us, hl with | [_, _, _], _ => rfl) (fun vs H Q E h => ?_) (fun f cdv A outer s H vs Q E hr h => ?_)
  · obtain ⟨_, _, _, rfl, _⟩ := h
    rfl
  · obtain ⟨i, lo, hi, rfl, k⟩ := h
    refine ⟨_, pss_one (ps_ret (pe_and (pe_callB call_isi (by rfl) T.isinstance (by decide +kernel) (pa_cons (pv 0) (pa_cons (pe_bltn (v := .ty "int") (by rfl) T.int (by decide +kernel) rfl) pa_nil)))
      (pe_and (pe_not (pe_callB call_isi (by rfl) T.isinstance (by decide +kernel) (pa_cons (pv 0) (pa_cons (pe_bltn (v := .ty "bool") (by rfl) T.bool (by decide +kernel) rfl) pa_nil))))
        (pe_one (pe_chain op_le op_le (pv 1) (pv 0) (pv 2)))))), ?_⟩
    refine ⟨_, rfl, ⟨_, _, _, _, true, rfl, .ty _, .base (.int _), kII, ⟨_, rfl, iteT ⟨_, rfl, ⟨_, _, _, _, false, rfl, .ty _, .base (.int _), kIB, ⟨_, rfl, _, rfl, iteT ?_⟩⟩⟩⟩⟩⟩
    exact ⟨_, rfl, _, rfl, _, _, rfl, rfl, _, rfl, chain_end k fun _ q => ⟨_, rfl, _, _, rfl, rfl, q⟩⟩
theorem scWholeF : FnScope ["value", "least", "most"] ["value", "least", "most"] (defScope s_is_whole_fitting) := ⟨rfl, rfl, rfl, by decide +kernel, rfl, by decide +kernel, by decide +kernel⟩
theorem ok_wholeF (T : Txt mg) (F : Dfn K mg "is_whole_fitting" "is_whole" s_is_whole_fitting) : Prm P w K mg base 1 "is_whole_fitting" spInt := by
  refine F.prm scWholeF (fun _ _ _ _ _ _ us hl => match us, hl with | [_, _, _], _ => rfl) (fun vs H Q E h => ?_) (fun f cdv A outer s H vs Q E hr h => ?_)
  · obtain ⟨_, _, _, rfl, _⟩ := h
    rfl
  · obtain ⟨i, lo, hi, rfl, k⟩ := h
    refine ⟨_, pss_one (ps_ret (pe_and (pe_callB call_isi (by rfl) T.isinstance (by decide +kernel) (pa_cons (pv 0) (pa_cons (pe_bltn (v := .ty "int") (by rfl) T.int (by decide +kernel) rfl) pa_nil)))
      (pe_and (pe_not (pe_callB call_isi (by rfl) T.isinstance (by decide +kernel) (pa_cons (pv 0) (pa_cons (pe_bltn (v := .ty "bool") (by rfl) T.bool (by decide +kernel) rfl) pa_nil))))
        (pe_one (pe_chain op_le op_le (pv 1) (pv 0) (pv 2)))))), ?_⟩
    refine ⟨_, rfl, ⟨_, _, _, _, true, rfl, .ty _, .base (.int _), kII, ⟨_, rfl, iteT ⟨_, rfl, ⟨_, _, _, _, false, rfl, .ty _, .base (.int _), kIB, ⟨_, rfl, _, rfl, iteT ?_⟩⟩⟩⟩⟩⟩
    exact ⟨_, rfl, _, rfl, _, _, rfl, rfl, _, rfl, chain_end k fun _ q => ⟨_, rfl, _, _, rfl, rfl, q⟩⟩
/-! ### is_votes -/
/-- all is True: what a list of Trues says -/
theorem all_true {bs : List Bool} (h : ∀ b ∈ bs, b = true) : bs.all id = true := List.all_eq_true.mpr fun b hb => h b hb
def spVotes : Sp := fun vs H Q _ => ∃ (v : V) (ns : List Int), vs = [v] ∧ Ints H v ns ∧ GoodV ns ∧ ∀ H', Same H H' → Q (.bl true) H'
abbrev nVotes : List Str := ["value", "one"]
theorem scVotes : FnScope nVotes ["value"] (defScope s_is_votes) := ⟨rfl, rfl, rfl, by decide +kernel, rfl, by decide +kernel, by decide +kernel⟩
theorem ok_votes (T : Txt mg) (F : Dfn K mg "is_votes" "is_votes" s_is_votes) (GW : Prm P w K mg base 1 "is_whole_methods" spInt) : Prm P w K mg base 2 "is_votes" spVotes := by
  refine F.prm scVotes (fun _ _ _ _ _ _ us hl => match us, hl with | [_], _ => rfl) (fun vs H Q E h => ?_) (fun f cdv A outer s H vs Q E hr h => ?_)
  · obtain ⟨_, _, rfl, _⟩ := h
    rfl
  · obtain ⟨v, ns, rfl, ⟨a, rfl, ha⟩, hg, k⟩ := h
    have nd := scVotes.nd
    refine ⟨_, pss_cons (ps_if (PW.pt (pw_or (pt_not (pt_val (pe_callB call_isi (by rfl) T.isinstance (by decide +kernel) (pa_cons (pv 0) (pa_cons (pe_bltn (v := .ty "tuple") (by rfl) T.tuple (by decide +kernel) rfl) pa_nil)))))
        (pw_or1 (pt_cmpR op_gt (pe_callB call_len_seq (by rfl) T.len PySem.boot_len (pa_cons (pv 0) pa_nil)) (pe_gint (by rfl) T.mParties) (nomark _))))) (pss_one (ps_ret pe_bl)) pss_nil)
      (pss_one (ps_ret (pe_callB (cr_all rfl) (by rfl) T.all (by decide +kernel) (pa_cons (pe_lc (own := [("one", 1)]) (g := gName 1) rfl nd (pi_tup (pv 0)) (blkOk_by (N := nVotes) (sc := defScope s_is_votes) (by decide +kernel))
        (fun _ _ _ _ _ => pg_name (i := 1) nd rfl (.inl rfl)) (fun _ _ _ _ _ => pts_nil) (fun _ _ _ _ _ => pe_prm GW hr (by decide) (by rfl) (pa_cons (pv 1) (pa_cons pe_int (pa_cons (pe_gint (by rfl) T.mVotes) pa_nil))))) pa_nil)))), ?_⟩
    refine ⟨_, rfl, ⟨_, _, _, _, true, rfl, .ty _, .base (.tup ha), kTT, ⟨_, rfl, iteF ⟨_, rfl, a, _, rfl, .inr (SqT.of ha), _, _, rfl, rfl, _, rfl, ?_⟩⟩⟩⟩
    have l5 : ¬ (5 : Int) < ((ns.map V.int).length : Int) := by
      rw [List.length_map]
      have := hg.len
      omega
    rw [decide_eq_false l5]
    refine iteF ⟨_, rfl, a, rfl, ⟨_, SqT.of ha⟩, fun D hD => lc_tup (K := K) (a := a) (xs := ns.map V.int) (fun i H' => Same H H' ∧ ∃ bs : List Bool, H' D = some (.lst (bs.map V.bl)) ∧ bs.length = i ∧ ∀ b ∈ bs, b = true)
      ⟨same_new hD, [], upd_same, rfl, fun b hb => (nomatch hb)⟩ (fun i H' _ ⟨sm, _⟩ => SqT.of (sm _ _ ha)) (fun i x H' hi ⟨sm, bs, hbs, lb, all⟩ => ?_) (fun H' ⟨sm, bs, hbs, lb, all⟩ => ⟨D, bs, rfl, SqL.of hbs, ?_⟩)⟩
    · rw [List.getElem?_map] at hi
      obtain ⟨n, hn, rfl⟩ := Option.map_eq_some_iff.mp hi
      have hm := hg.one n (List.mem_of_getElem? hn)
      have li := (List.getElem?_eq_some_iff.mp hn).1
      have l5 := hg.len
      refine ⟨rfl, _, rfl, n, 1, 1000000, rfl, _, hbs, by rw [List.length_map]; exact size4 (by omega), Same.put sm hD, bs ++ [decide (1 ≤ n) && decide (n ≤ 1000000)], ?_, by rw [List.length_append, lb]; rfl, fun b hb => ?_⟩
      · rw [upd_same, List.map_append]
        rfl
      · rcases List.mem_append.mp hb with hb | hb
        · exact all b hb
        · rw [List.mem_singleton.mp hb, decide_eq_true hm.1, decide_eq_true hm.2]
          rfl
    · rw [all_true all]
      exact k H' sm
/-! ### is_seats -/
def spSeats : Sp := fun vs H Q _ => ∃ (x y : V) (ss ns : List Int), vs = [x, y] ∧ Ints H x ss ∧ Ints H y ns ∧ GoodV ns ∧ GoodS ns ss ∧ ∀ H', Same H H' → Q (.bl true) H'
abbrev nSeats : List Str := ["value", "votes", "one"]
theorem scSeats : FnScope nSeats ["value", "votes"] (defScope s_is_seats) := ⟨rfl, rfl, rfl, by decide +kernel, rfl, by decide +kernel, by decide +kernel⟩
theorem ok_seats (T : Txt mg) (F : Dfn K mg "is_seats" "is_seats" s_is_seats) (GW : Prm P w K mg base 1 "is_whole_methods" spInt) : Prm P w K mg base 2 "is_seats" spSeats := by
  refine F.prm scSeats (fun _ _ _ _ _ _ us hl => match us, hl with | [_, _], _ => rfl) (fun vs H Q E h => ?_) (fun f cdv A outer s H vs Q E hr h => ?_)
  · obtain ⟨_, _, _, _, rfl, _⟩ := h
    rfl
  · obtain ⟨x, y, ss, ns, rfl, ⟨a, rfl, ha⟩, ⟨b, rfl, hb⟩, hv, hs, k⟩ := h
    have nd := scSeats.nd
    refine ⟨_, pss_cons (ps_if (PW.pt (pw_or (pt_not (pt_val (pe_callB call_isi (by rfl) T.isinstance (by decide +kernel) (pa_cons (pv 0) (pa_cons (pe_bltn (v := .ty "tuple") (by rfl) T.tuple (by decide +kernel) rfl) pa_nil)))))
        (pw_or1 (pt_cmpR op_ne (pe_callB call_len_seq (by rfl) T.len PySem.boot_len (pa_cons (pv 0) pa_nil)) (pe_callB call_len_seq (by rfl) T.len PySem.boot_len (pa_cons (pv 1) pa_nil)) (nomark _))))) (pss_one (ps_ret pe_bl)) pss_nil)
      (pss_one (ps_ret (pe_and (pe_callB (cr_all rfl) (by rfl) T.all (by decide +kernel) (pa_cons (pe_lc (own := [("one", 2)]) (g := gName 2) rfl nd (pi_tup (pv 0)) (blkOk_by (N := nSeats) (sc := defScope s_is_seats) (by decide +kernel))
        (fun _ _ _ _ _ => pg_name (i := 2) nd rfl (.inl rfl)) (fun _ _ _ _ _ => pts_nil) (fun _ _ _ _ _ => pe_prm GW hr (by decide) (by rfl) (pa_cons (pv 2) (pa_cons pe_int (pa_cons (pe_gint (by rfl) T.mSeats) pa_nil))))) pa_nil))
        (pe_one (pe_cmpR op_le (pe_callB (cr_sumT rfl) (by rfl) T.sum (by decide +kernel) (pa_cons (pv 0) pa_nil)) (pe_gint (by rfl) T.mSeats) (nomark _)))))), ?_⟩
    refine ⟨_, rfl, ⟨_, _, _, _, true, rfl, .ty _, .base (.tup ha), kTT, ⟨_, rfl, iteF ⟨_, rfl, a, _, rfl, .inr (SqT.of ha), _, rfl, b, _, rfl, .inr (SqT.of hb), rfl, _, rfl, ?_⟩⟩⟩⟩
    have le : V.int ((ss.map V.int).length : Int) = V.int ((ns.map V.int).length : Int) := by rw [List.length_map, List.length_map, hs.len]
    rw [decide_eq_true le]
    refine iteF ⟨_, rfl, a, rfl, ⟨_, SqT.of ha⟩, fun D hD => lc_tup (K := K) (a := a) (xs := ss.map V.int) (fun i H' => Same H H' ∧ ∃ bs : List Bool, H' D = some (.lst (bs.map V.bl)) ∧ bs.length = i ∧ ∀ b ∈ bs, b = true)
      ⟨same_new hD, [], upd_same, rfl, fun b hb => (nomatch hb)⟩ (fun i H' _ ⟨sm, _⟩ => SqT.of (sm _ _ ha)) (fun i x H' hi ⟨sm, bs, hbs, lb, all⟩ => ?_) (fun H' ⟨sm, bs, hbs, lb, all⟩ => ⟨D, bs, rfl, SqL.of hbs, _, rfl, ?_⟩)⟩
    · rw [List.getElem?_map] at hi
      obtain ⟨n, hn, rfl⟩ := Option.map_eq_some_iff.mp hi
      have hm := hs.one n (List.mem_of_getElem? hn)
      have li := (List.getElem?_eq_some_iff.mp hn).1
      have l5 := hv.len
      have l6 := hs.len
      refine ⟨rfl, _, rfl, n, 0, 8, rfl, _, hbs, by rw [List.length_map]; exact size4 (by omega), Same.put sm hD, bs ++ [decide (0 ≤ n) && decide (n ≤ 8)], ?_, by rw [List.length_append, lb]; rfl, fun b hb => ?_⟩
      · rw [upd_same, List.map_append]
        rfl
      · rcases List.mem_append.mp hb with hb | hb
        · exact all b hb
        · rw [List.mem_singleton.mp hb, decide_eq_true hm.1, decide_eq_true hm.2]
          rfl
    · rw [all_true all]
      refine iteT ⟨_, rfl, a, ss, rfl, SqT.of (sm _ _ ha), _, _, rfl, rfl, ?_⟩
      show Q (.bl (decide (ss.sum ≤ 8))) H'
      rw [decide_eq_true hs.sum]
      exact k H' sm
/-! ### is_result, are_results, check_results -/
def spResult : Sp := fun vs H Q _ => ∃ (v : V) (r : Res), vs = [v] ∧ IsR H v r ∧ GoodR r ∧ ∀ H', Same H H' → Q (.bl true) H'
theorem scResult : FnScope ["value"] ["value"] (defScope s_is_result) := ⟨rfl, rfl, rfl, by decide +kernel, rfl, by decide +kernel, by decide +kernel⟩
theorem ok_result (T : Txt mg) (F : Dfn K mg "is_result" "is_result" s_is_result) (GV : Prm P w K mg base 2 "is_votes" spVotes) (GS : Prm P w K mg base 2 "is_seats" spSeats) : Prm P w K mg base 3 "is_result" spResult := by
  refine F.prm scResult (fun _ _ _ _ _ _ us hl => match us, hl with | [_], _ => rfl) (fun vs H Q E h => ?_) (fun f cdv A outer s H vs Q E hr h => ?_)
  · obtain ⟨_, _, rfl, _⟩ := h
    rfl
  · obtain ⟨v, r, rfl, ⟨a, x, y, rfl, ha, hx, hy⟩, hg, k⟩ := h
    refine ⟨_, pss_one (ps_ret (pe_and (pe_callB call_isi (by rfl) T.isinstance (by decide +kernel) (pa_cons (pv 0) (pa_cons (pe_bltn (v := .ty "tuple") (by rfl) T.tuple (by decide +kernel) rfl) pa_nil)))
      (pe_and (pe_cmpR op_eq (pe_callB call_len_seq (by rfl) T.len PySem.boot_len (pa_cons (pv 0) pa_nil)) pe_int (nomark _))
        (pe_and (pe_prm GV hr (by decide) (by rfl) (pa_cons (pe_ix ix_tup (pv 0) pe_int (fun _ _ => rfl)) pa_nil))
          (pe_one (pe_prm GS hr (by decide) (by rfl) (pa_cons (pe_ix ix_tup (pv 0) pe_int (fun _ _ => rfl)) (pa_cons (pe_ix ix_tup (pv 0) pe_int (fun _ _ => rfl)) pa_nil)))))))), ?_⟩
    refine ⟨_, rfl, ⟨_, _, _, _, true, rfl, .ty _, .base (.tup ha), kTT, ⟨_, rfl, iteT ⟨_, rfl, a, _, rfl, .inr (SqT.of ha), rfl, _, rfl, iteT ?_⟩⟩⟩⟩
    refine ⟨_, rfl, a, _, 0, x, rfl, rfl, SqT.of ha, atI_nat (j := 0) rfl, x, r.1, rfl, hx, hg.1, fun H1 s1 => ⟨_, rfl, iteT ?_⟩⟩
    exact ⟨_, rfl, a, _, 1, y, rfl, rfl, SqT.of (s1 _ _ ha), atI_nat (j := 1) rfl, _, rfl, a, _, 0, x, rfl, rfl, SqT.of (s1 _ _ ha), atI_nat (j := 0) rfl, y, x, r.2, r.1, rfl, hy.tk s1.tk, hx.tk s1.tk, hg.1, hg.2, fun H2 s2 => k H2 (Same.trans s1 s2)⟩
def spResults : Sp := fun vs H Q _ => ∃ (v : V) (rs : List Res), vs = [v] ∧ IsRs H v rs ∧ (∀ r ∈ rs, GoodR r) ∧ rs.length ≤ 6 ∧ ∀ H', Same H H' → Q (.bl true) H'
abbrev nResults : List Str := ["value", "one"]
theorem scResults : FnScope nResults ["value"] (defScope s_are_results) := ⟨rfl, rfl, rfl, by decide +kernel, rfl, by decide +kernel, by decide +kernel⟩
theorem ok_results (T : Txt mg) (F : Dfn K mg "are_results" "are_results" s_are_results) (GR : Prm P w K mg base 3 "is_result" spResult) : Prm P w K mg base 4 "are_results" spResults := by
  refine F.prm scResults (fun _ _ _ _ _ _ us hl => match us, hl with | [_], _ => rfl) (fun vs H Q E h => ?_) (fun f cdv A outer s H vs Q E hr h => ?_)
  · obtain ⟨_, _, rfl, _⟩ := h
    rfl
  · obtain ⟨v, rs, rfl, ⟨a, xs, rfl, ha, pr⟩, hg, l6, k⟩ := h
    have nd := scResults.nd
    have lx := Paired.length pr
    refine ⟨_, pss_one (ps_ret (pe_and (pe_callB call_isi (by rfl) T.isinstance (by decide +kernel) (pa_cons (pv 0) (pa_cons (pe_bltn (v := .ty "tuple") (by rfl) T.tuple (by decide +kernel) rfl) pa_nil)))
      (pe_and (pe_cmpR op_le (pe_callB call_len_seq (by rfl) T.len PySem.boot_len (pa_cons (pv 0) pa_nil)) (pe_gint (by rfl) T.mResults) (nomark _))
        (pe_one (pe_callB (cr_all rfl) (by rfl) T.all (by decide +kernel) (pa_cons (pe_lc (own := [("one", 1)]) (g := gName 1) rfl nd (pi_tup (pv 0)) (blkOk_by (N := nResults) (sc := defScope s_are_results) (by decide +kernel))
          (fun _ _ _ _ _ => pg_name (i := 1) nd rfl (.inl rfl)) (fun _ _ _ _ _ => pts_nil) (fun _ _ _ _ _ => pe_prm GR hr (by decide) (by rfl) (pa_cons (pv 1) pa_nil))) pa_nil)))))), ?_⟩
    refine ⟨_, rfl, ⟨_, _, _, _, true, rfl, .ty _, .base (.tup ha), kTT, ⟨_, rfl, iteT ⟨_, rfl, a, _, rfl, .inr (SqT.of ha), _, _, rfl, rfl, _, rfl, ?_⟩⟩⟩⟩
    rw [decide_eq_true (show (xs.length : Int) ≤ 6 by omega)]
    refine iteT ⟨_, rfl, a, rfl, ⟨_, SqT.of ha⟩, fun D hD => lc_tup (K := K) (a := a) (xs := xs) (fun i H' => Same H H' ∧ ∃ bs : List Bool, H' D = some (.lst (bs.map V.bl)) ∧ bs.length = i ∧ ∀ b ∈ bs, b = true)
      ⟨same_new hD, [], upd_same, rfl, fun b hb => (nomatch hb)⟩ (fun i H' _ ⟨sm, _⟩ => SqT.of (sm _ _ ha)) (fun i x H' hi ⟨sm, bs, hbs, lb, all⟩ => ?_) (fun H' ⟨sm, bs, hbs, lb, all⟩ => ⟨D, bs, rfl, SqL.of hbs, ?_⟩)⟩
    · obtain ⟨r, hr1, pr1⟩ := paired_get pr hi
      have li := (List.getElem?_eq_some_iff.mp hi).1
      refine ⟨rfl, _, rfl, x, r, rfl, pr1.tk sm.tk, hg r (List.mem_of_getElem? hr1), fun H2 s2 => ⟨_, s2 _ _ hbs, by rw [List.length_map]; exact size4 (by omega), Same.put (Same.trans sm s2) hD, bs ++ [true], ?_, by rw [List.length_append, lb]; rfl, fun b hb => ?_⟩⟩
      · rw [upd_same, List.map_append]
        rfl
      · rcases List.mem_append.mp hb with hb | hb
        · exact all b hb
        · exact List.mem_singleton.mp hb
    · rw [all_true all]
      exact k H' sm
def spChkR : Sp := fun vs H Q _ => ∃ (v : V) (rs : List Res), vs = [v] ∧ IsRs H v rs ∧ (∀ r ∈ rs, GoodR r) ∧ rs.length ≤ 6 ∧ ∀ H', Same H H' → Q .non H'
theorem scChkR : FnScope ["results"] ["results"] (defScope s_check_results) := ⟨rfl, rfl, rfl, by decide +kernel, rfl, by decide +kernel, by decide +kernel⟩
theorem ok_chkR (F : Dfn K mg "check_results" "check_results" s_check_results) (GR : Prm P w K mg base 4 "are_results" spResults) : Prm P w K mg base 5 "check_results" spChkR := by
  refine F.prm scChkR (fun _ _ _ _ _ _ us hl => match us, hl with | [_], _ => rfl) (fun vs H Q E h => ?_) (fun f cdv A outer s H vs Q E hr h => ?_)
  · obtain ⟨_, _, rfl, _⟩ := h
    rfl
  · obtain ⟨v, rs, rfl, hR, hg, l6, k⟩ := h
    refine ⟨_, pss_one (ps_if (pt_not (pt_val (pe_prm GR hr (by decide) (by rfl) (pa_cons (pv 0) pa_nil)))) pss_never pss_nil), ?_⟩
    exact ⟨_, rfl, v, rs, rfl, hR, hg, l6, fun H' sm => ⟨_, rfl, iteF (k H' sm)⟩⟩
/-! ### behind -/
def spBehind : Sp := fun vs H Q _ => ∃ (x y z : V) (rs : List Res) (v s : List Int), vs = [x, y, z] ∧ IsRs H x rs ∧ Ints H y v ∧ Ints H z s ∧ rs.length ≤ 1000 ∧ ∀ H' r, Same H H' → IsRs H' r (rs ++ [(v, s)]) → Q r H'
theorem scBehind : FnScope ["results", "votes", "seats"] ["results", "votes", "seats"] (defScope s_behind) := ⟨rfl, rfl, rfl, by decide +kernel, rfl, by decide +kernel, by decide +kernel⟩
theorem ok_behind (F : Dfn K mg "behind" "behind" s_behind) : Prm P w K mg base 1 "behind" spBehind := by
  refine F.prm scBehind (fun _ _ _ _ _ _ us hl => match us, hl with | [_, _, _], _ => rfl) (fun vs H Q E h => ?_) (fun f cdv A outer s H vs Q E hr h => ?_)
  · obtain ⟨_, _, _, _, _, _, rfl, _⟩ := h
    rfl
  · obtain ⟨x, y, z, rs, v, s, rfl, ⟨a, xs, rfl, ha, pr⟩, hy, hz, lr, k⟩ := h
    have lx := Paired.length pr
    refine ⟨_, pss_one (ps_ret (pe_op op_catA (pv 0) (pe_tup (pa_cons (pe_tup (pa_cons (pv 1) (pa_cons (pv 2) pa_nil))) pa_nil)))), ?_⟩
    refine ⟨_, rfl, _, rfl, _, rfl, by show 2 ≤ sizeLine; decide, fun p hp => ⟨by show 1 ≤ sizeLine; decide, fun q hq => ?_⟩⟩
    have sp := same_new (o := HO.tup [y, z]) hp
    generalize eHp : upd H p (HO.tup [y, z]) = Hp1 at sp hq
    have hpp : Hp1 p = some (.tup [y, z]) := by rw [← eHp]; exact upd_same
    have sq := same_new (o := HO.tup [.ref p]) hq
    generalize eHq : upd Hp1 q (HO.tup [.ref p]) = Hq1 at sq
    have hqq : Hq1 q = some (.tup [.ref p]) := by rw [← eHq]; exact upd_same
    have s2 := Same.trans sp sq
    have new : IsR Hq1 (.ref p) (v, s) := ⟨p, y, z, rfl, sq _ _ hpp, hy.tk s2.tk, hz.tk s2.tk⟩
    refine ⟨a, q, xs, _, rfl, rfl, SqT.of (s2 _ _ ha), SqT.of hqq, size5 (by show xs.length + 1 ≤ 100000; omega), fun e => ?_, fun _ e => (nomatch e), fun _ _ c hc => ?_⟩
    · subst e
      cases pr
      exact k Hq1 _ s2 ⟨q, _, rfl, hqq, .cons new .nil⟩
    · have sc := same_new (o := HO.tup (xs ++ [.ref p])) hc
      have s3 := Same.trans s2 sc
      exact k _ _ s3 ⟨c, _, rfl, upd_same, paired_snoc (paired_mono pr fun _ _ r => r.tk s3.tk) (new.tk sc.tk)⟩
end
end Ds
set_option maxHeartbeats 4000000
namespace Ds
open PySem PySem.Spec PyProof.Rows L2
/-- a method as the program checks it -/
structure GoodM (fs : List Int) (st : Int) : Prop where
  len1 : 1 ≤ fs.length
  len6 : fs.length ≤ 6
  one : ∀ x ∈ fs, 1 ≤ x ∧ x ≤ 1000
  asc : ∀ i, i + 1 < fs.length → fs.getD i 0 ≤ fs.getD (i + 1) 0
  st1 : 1 ≤ st
  st2 : st ≤ 1000
def dM (fs : List Int) (st : Int) (k : Int) : Int := if k < fs.length then fs.getD k.toNat 0 else fs.getD (fs.length - 1) 0 + st * (k + 1 - fs.length)
def IsM (H : Hp) (v : V) (fs : List Int) (st : Int) : Prop := ∃ a x, v = .ref a ∧ H a = some (.tup [x, .int st]) ∧ Ints H x fs
theorem IsM.tk {H H' : Hp} {v : V} {fs : List Int} {st : Int} (h : IsM H v fs st) (s : TK H H') : IsM H' v fs st := let ⟨a, x, e, q, r⟩ := h; ⟨a, x, e, s _ _ q, r.tk s⟩
theorem at_last {fs : List Int} (h : 1 ≤ fs.length) : atI (fs.map V.int) (-1) = some (.int (fs.getD (fs.length - 1) 0)) := by
  obtain ⟨ys, y, rfl⟩ : ∃ ys y, fs = ys ++ [y] := by
    rcases List.eq_nil_or_concat fs with e | ⟨ys, y, e⟩
    · rw [e] at h
      simp at h
    · exact ⟨ys, y, by simpa using e⟩
  rw [List.map_append]
  have e : (ys ++ [y]).getD ((ys ++ [y]).length - 1) 0 = y := by simp [List.getD]
  rw [e]
  exact atI_last _ _
theorem dM_asc {fs : List Int} {st : Int} (g : GoodM fs st) : Asc (dM fs st) := by
  have pos : ∀ i, i < fs.length → 0 < fs.getD i 0 := fun i h => by
    have := g.one _ (getD_mem h)
    omega
  have l1 := g.len1
  have s1 := g.st1
  refine ⟨fun k hk => ?_, fun k hk => ?_⟩
  · unfold dM
    split
    · exact pos _ (by omega)
    · have := pos (fs.length - 1) (by omega)
      have h2 : 0 ≤ st * (k + 1 - fs.length) := Int.mul_nonneg (by omega) (by omega)
      omega
  · unfold dM
    by_cases h1 : k + 1 < fs.length
    · rw [if_pos h1, if_pos (by omega)]
      have := g.asc k.toNat (by omega)
      rw [show (k + 1).toNat = k.toNat + 1 by omega]
      exact this
    · rw [if_neg h1]
      by_cases h2 : k < fs.length
      · rw [if_pos h2, show k.toNat = fs.length - 1 by omega]
        have h3 : 0 ≤ st * (k + 1 + 1 - fs.length) := Int.mul_nonneg (by omega) (by omega)
        omega
      · rw [if_neg h2]
        have h3 : st * (k + 1 - fs.length) ≤ st * (k + 1 + 1 - fs.length) := Int.mul_le_mul_of_nonneg_left (by omega) (by omega)
        omega
section
variable {P : Program} {w : World} {K : PySem.W.Frag} {mg : Str → Option Value} {base : Heap}
/-! ### is_method, check_method -/
def spMeth : Sp := fun vs H Q _ => ∃ (v : V) (fs : List Int) (st : Int), vs = [v] ∧ IsM H v fs st ∧ GoodM fs st ∧ ∀ H', Same H H' → Q (.bl true) H'
abbrev nMeth : List Str := ["value", "one", "at"]
theorem scMeth : FnScope nMeth ["value"] (defScope s_is_method) := ⟨rfl, rfl, rfl, by decide +kernel, rfl, by decide +kernel, by decide +kernel⟩
def teMeth (K : PySem.W.Frag) : TE := tOp (rI0 fun i j => .bl (decide (i ≤ j))) (tOp (rIxT K) (tOp (rIxT K) (tVar 0) (tC (.int 0))) (tVar 2)) (tOp (rIxT K) (tOp (rIxT K) (tVar 0) (tC (.int 0))) (tOp (rI0 fun i j => .int (i + j)) (tVar 2) (tC (.int 1))))
theorem ok_meth (T : Txt mg) (F : Dfn K mg "is_method" "is_method" s_is_method) (GW : Prm P w K mg base 1 "is_whole_methods" spInt) : Prm P w K mg base 2 "is_method" spMeth := by
  refine F.prm scMeth (fun _ _ _ _ _ _ us hl => match us, hl with | [_], _ => rfl) (fun vs H Q E h => ?_) (fun f cdv A outer s H vs Q E hr h => ?_)
  · obtain ⟨_, _, _, rfl, _⟩ := h
    rfl
  · obtain ⟨v, fs, st, rfl, ⟨a, x, rfl, ha, b, rfl, hb⟩, g, k⟩ := h
    have nd := scMeth.nd
    refine ⟨_, pss_cons (ps_if (PW.pt (pw_or (pt_not (pt_val (pe_callB call_isi (by rfl) T.isinstance (by decide +kernel) (pa_cons (pv 0) (pa_cons (pe_bltn (v := .ty "tuple") (by rfl) T.tuple (by decide +kernel) rfl) pa_nil)))))
        (pw_or (pt_cmpR op_ne (pe_callB call_len_seq (by rfl) T.len PySem.boot_len (pa_cons (pv 0) pa_nil)) pe_int (nomark _))
          (pw_or1 (pt_not (pt_val (pe_prm GW hr (by decide) (by rfl) (pa_cons (pe_ix ix_tup (pv 0) pe_int (fun _ _ => rfl)) (pa_cons pe_int (pa_cons (pe_gint (by rfl) T.mDivisor) pa_nil)))))))))) (pss_one (ps_ret pe_bl)) pss_nil)
      (pss_cons (ps_if (PW.pt (pw_or (pt_not (pt_val (pe_callB call_isi (by rfl) T.isinstance (by decide +kernel) (pa_cons (pe_ix ix_tup (pv 0) pe_int (fun _ _ => rfl)) (pa_cons (pe_bltn (v := .ty "tuple") (by rfl) T.tuple (by decide +kernel) rfl) pa_nil)))))
        (pw_or1 (pt_not (pt_chain op_le op_le pe_int (pe_callB call_len_seq (by rfl) T.len PySem.boot_len (pa_cons (pe_ix ix_tup (pv 0) pe_int (fun _ _ => rfl)) pa_nil)) (pe_gint (by rfl) T.mFirsts)))))) (pss_one (ps_ret pe_bl)) pss_nil)
      (pss_cons (ps_if (pt_not (pt_val (pe_callB (cr_all rfl) (by rfl) T.all (by decide +kernel) (pa_cons (pe_lc (own := [("one", 1)]) (g := gName 1) rfl nd (pi_tup (pe_ix ix_tup (pv 0) pe_int (fun _ _ => rfl))) (blkOk_by (N := nMeth) (sc := defScope s_is_method) (by decide +kernel))
        (fun _ _ _ _ _ => pg_name (i := 1) nd rfl (.inl rfl)) (fun _ _ _ _ _ => pts_nil) (fun _ _ _ _ _ => pe_prm GW hr (by decide) (by rfl) (pa_cons (pv 1) (pa_cons pe_int (pa_cons (pe_gint (by rfl) T.mDivisor) pa_nil))))) pa_nil)))) (pss_one (ps_ret pe_bl)) pss_nil)
      (pss_one (ps_ret (pe_callB (cr_all rfl) (by rfl) T.all (by decide +kernel) (pa_cons (pe_lc (own := [("at", 2)]) (g := gName 2) (te := teMeth K) rfl nd (pi_range1 (by rfl) T.range (pa_cons (pe_op op_sub (pe_callB call_len_seq (by rfl) T.len PySem.boot_len (pa_cons (pe_ix ix_tup (pv 0) pe_int (fun _ _ => rfl)) pa_nil)) pe_int) pa_nil)) (blkOk_by (N := nMeth) (sc := defScope s_is_method) (by decide +kernel))
        (fun _ _ _ _ _ => pg_name (i := 2) nd rfl (.inl rfl)) (fun _ _ _ _ _ => pts_nil)
        (fun _ _ _ _ _ => pe_cmpR op_le (pe_ix ix_tup (pe_ix ix_tup (pv 0) pe_int (fun _ _ => rfl)) (pv 2) (fun _ _ => rfl)) (pe_ix ix_tup (pe_ix ix_tup (pv 0) pe_int (fun _ _ => rfl)) (pe_op op_add (pv 2) pe_int) (fun _ _ => rfl)) (nomark _))) pa_nil)))))), ?_⟩
    have l1 := g.len1
    have l6 := g.len6
    have d1 : (decide ((1 : Int) ≤ st) && decide (st ≤ 1000)) = true := by rw [decide_eq_true g.st1, decide_eq_true g.st2]; rfl
    have at0 : ∀ {H'}, Same H H' → SqT K H' a [.ref b, .int st] := fun sm => SqT.of (sm _ _ ha)
    have sr := Same.refl H
    refine ⟨_, rfl, _, _, _, _, true, rfl, .ty _, .base (.tup ha), kTT, ⟨_, rfl, iteF ⟨_, rfl, a, _, rfl, .inr (SqT.of ha), rfl, _, rfl, iteF ?_⟩⟩⟩
    refine ⟨_, rfl, a, _, 1, .int st, rfl, rfl, at0 sr, atI_nat (j := 1) rfl, st, 1, 1000, rfl, _, rfl, ?_⟩
    rw [d1]
    refine iteF ⟨_, rfl, a, _, 0, .ref b, rfl, rfl, at0 sr, atI_nat (j := 0) rfl, _, _, _, _, true, rfl, .ty _, .base (.tup hb), kTT, ⟨_, rfl, iteF ?_⟩⟩
    refine ⟨_, rfl, a, _, 0, .ref b, rfl, rfl, at0 sr, atI_nat (j := 0) rfl, b, _, rfl, .inr (SqT.of hb), _, _, rfl, rfl, _, rfl, ?_⟩
    have lm : (fs.map V.int).length = fs.length := List.length_map ..
    rw [lm, decide_eq_true (show (1 : Int) ≤ (fs.length : Int) by omega)]
    refine iteT ⟨_, _, rfl, rfl, _, rfl, ?_⟩
    rw [decide_eq_true (show (fs.length : Int) ≤ 6 by omega)]
    refine iteF ?_
    -- all whole
    refine ⟨_, rfl, a, _, 0, .ref b, rfl, rfl, at0 sr, atI_nat (j := 0) rfl, b, rfl, ⟨_, SqT.of hb⟩, fun D hD => lc_tup (K := K) (a := b) (xs := fs.map V.int) (fun i H' => Same H H' ∧ ∃ bs : List Bool, H' D = some (.lst (bs.map V.bl)) ∧ bs.length = i ∧ ∀ c ∈ bs, c = true)
      ⟨same_new hD, [], upd_same, rfl, fun c hc => (nomatch hc)⟩ (fun i H' _ ⟨sm, _⟩ => SqT.of (sm _ _ hb)) (fun i x H' hi ⟨sm, bs, hbs, lb, all⟩ => ?_) (fun H' ⟨sm, bs, hbs, lb, all⟩ => ⟨D, bs, rfl, SqL.of hbs, _, rfl, ?_⟩)⟩
    · rw [List.getElem?_map] at hi
      obtain ⟨n, hn, rfl⟩ := Option.map_eq_some_iff.mp hi
      have hm := g.one n (List.mem_of_getElem? hn)
      have li := (List.getElem?_eq_some_iff.mp hn).1
      refine ⟨rfl, _, rfl, n, 1, 1000, rfl, _, hbs, by rw [List.length_map]; exact size4 (by omega), Same.put sm hD, bs ++ [decide (1 ≤ n) && decide (n ≤ 1000)], ?_, by rw [List.length_append, lb]; rfl, fun c hc => ?_⟩
      · rw [upd_same, List.map_append]
        rfl
      · rcases List.mem_append.mp hc with hc | hc
        · exact all c hc
        · rw [List.mem_singleton.mp hc, decide_eq_true hm.1, decide_eq_true hm.2]
          rfl
    · rw [all_true all]
      refine iteF ?_
      -- all ascending
      refine ⟨_, rfl, a, _, 0, .ref b, rfl, rfl, at0 sm, atI_nat (j := 0) rfl, b, _, rfl, .inr (SqT.of (sm _ _ hb)), _, _, rfl, rfl, _, rfl, by rw [lm]; omega, by rw [lm]; omega, fun D2 hD2 => ?_⟩
      have en : ((((fs.map V.int).length : Nat) : Int) - 1).toNat = fs.length - 1 := by rw [lm]; omega
      rw [en]
      refine lc_range (lo := 0) (n := fs.length - 1) (fun i H2 => Same H H2 ∧ ∃ bs : List Bool, H2 D2 = some (.lst (bs.map V.bl)) ∧ bs.length = i ∧ ∀ c ∈ bs, c = true)
        ⟨Same.trans sm (same_new hD2), [], upd_same, rfl, fun c hc => (nomatch hc)⟩ (fun i H2 hi ⟨sm2, bs, hbs, lb, all⟩ => ?_) (fun H2 ⟨sm2, bs, hbs, lb, all⟩ => ⟨D2, bs, rfl, SqL.of hbs, ?_⟩)
      · rw [show (0 : Int) + (i : Int) = (i : Int) from Int.zero_add _]
        refine ⟨rfl, _, rfl, a, _, 0, .ref b, rfl, rfl, at0 sm2, atI_nat (j := 0) rfl, _, rfl, b, _, _, _, rfl, rfl, SqT.of (sm2 _ _ hb), at_int rfl (by omega), ?_⟩
        refine ⟨_, rfl, a, _, 0, .ref b, rfl, rfl, at0 sm2, atI_nat (j := 0) rfl, _, rfl, _, _, rfl, rfl, b, _, _, _, rfl, rfl, SqT.of (sm2 _ _ hb), at_int (i := i + 1) (by omega) (by omega), _, _, rfl, rfl, ?_⟩
        refine ⟨_, hbs, by rw [List.length_map]; exact size4 (by omega), Same.put sm2 (Same.free sm hD2), bs ++ [decide (fs.getD i 0 ≤ fs.getD (i + 1) 0)], ?_, by rw [List.length_append, lb]; rfl, fun c hc => ?_⟩
        · rw [upd_same, List.map_append]
          rfl
        · rcases List.mem_append.mp hc with hc | hc
          · exact all c hc
          · rw [List.mem_singleton.mp hc]
            exact decide_eq_true (g.asc i (by omega))
      · rw [all_true all]
        exact k H2 sm2
def spChkM : Sp := fun vs H Q _ => ∃ (v y : V) (fs : List Int) (st : Int), vs = [v, y] ∧ IsM H v fs st ∧ GoodM fs st ∧ ∀ H', Same H H' → Q .non H'
theorem scChkM : FnScope ["method", "name"] ["method", "name"] (defScope s_check_method) := ⟨rfl, rfl, rfl, by decide +kernel, rfl, by decide +kernel, by decide +kernel⟩
theorem ok_chkM (F : Dfn K mg "check_method" "check_method" s_check_method) (GM : Prm P w K mg base 2 "is_method" spMeth) : Prm P w K mg base 3 "check_method" spChkM := by
  refine F.prm scChkM (fun _ _ _ _ _ _ us hl => match us, hl with | [_, _], _ => rfl) (fun vs H Q E h => ?_) (fun f cdv A outer s H vs Q E hr h => ?_)
  · obtain ⟨_, _, _, _, rfl, _⟩ := h
    rfl
  · obtain ⟨v, y, fs, st, rfl, hm, g, k⟩ := h
    refine ⟨_, pss_one (ps_if (pt_not (pt_val (pe_prm GM hr (by decide) (by rfl) (pa_cons (pv 0) pa_nil)))) pss_never pss_nil), ?_⟩
    exact ⟨_, rfl, v, fs, st, rfl, hm, g, fun H' sm => ⟨_, rfl, iteF (k H' sm)⟩⟩
/-! ### divisor_at, divisors_to -/
def spDivAt : Sp := fun vs H Q _ => ∃ (v : V) (fs : List Int) (st : Int) (k : Nat), vs = [v, .int (k : Nat)] ∧ IsM H v fs st ∧ GoodM fs st ∧ Q (.int (dM fs st k)) H
abbrev nDivAt : List Str := ["method", "index", "firsts", "step"]
theorem scDivAt : FnScope nDivAt ["method", "index"] (defScope s_divisor_at) := ⟨rfl, rfl, rfl, by decide +kernel, rfl, by decide +kernel, by decide +kernel⟩
theorem ok_divAt (T : Txt mg) (F : Dfn K mg "divisor_at" "divisor_at" s_divisor_at) : Prm P w K mg base 1 "divisor_at" spDivAt := by
  refine F.prm scDivAt (fun _ _ _ _ _ _ us hl => match us, hl with | [_, _], _ => rfl) (fun vs H Q E h => ?_) (fun f cdv A outer s H vs Q E hr h => ?_)
  · obtain ⟨_, _, _, _, rfl, _⟩ := h
    rfl
  · obtain ⟨v, fs, st, n, rfl, ⟨a, x, rfl, ha, b, rfl, hb⟩, g, k⟩ := h
    have nd := scDivAt.nd
    refine ⟨_, pss_cons (ps_asg (pv 0) (pg_tup rfl (pgs_cons (pg_name (i := 2) nd rfl (.inl rfl)) (pgs_cons (pg_name (i := 3) nd rfl (.inl rfl)) pgs_nil))))
      (pss_cons (ps_if (pt_cmpR op_lt (pv 1) (pe_callB call_len_seq (by rfl) T.len PySem.boot_len (pa_cons (pv 2) pa_nil)) (nomark _)) (pss_one (ps_ret (pe_ix ix_tup (pv 2) (pv 1) (fun _ _ => rfl)))) pss_nil)
      (pss_one (ps_ret (pe_op op_add (pe_ix ix_tup (pv 2) (pe_un un_neg pe_int) (fun _ _ => rfl)) (pe_op op_mul (pv 3) (pe_op op_sub (pe_op op_add (pv 1) pe_int) (pe_callB call_len_seq (by rfl) T.len PySem.boot_len (pa_cons (pv 2) pa_nil)))))))), ?_⟩
    have lm : (fs.map V.int).length = fs.length := List.length_map ..
    have s1 := g.st1
    have s2 := g.st2
    refine ⟨_, rfl, a, _, rfl, SqT.of ha, rfl, _, _, rfl, _, _, rfl, rfl, ?_⟩
    refine ⟨_, rfl, _, rfl, b, _, rfl, .inr (SqT.of hb), _, _, rfl, rfl, _, rfl, ?_⟩
    rw [lm]
    refine ite2 (fun lt => ?_) (fun lt => ?_)
    · have lt : (n : Int) < (fs.length : Int) := of_decide_eq_true lt
      refine ⟨_, rfl, _, rfl, b, _, _, _, rfl, rfl, SqT.of hb, at_int rfl (by omega), ?_⟩
      unfold dM at k
      rw [if_pos lt] at k
      exact k
    · have lt : ¬ (n : Int) < (fs.length : Int) := fun z => lt (decide_eq_true z)
      refine ⟨_, rfl, 1, rfl, b, _, -1, _, rfl, rfl, SqT.of hb, at_last g.len1, _, rfl, _, rfl, _, _, rfl, rfl, _, rfl, b, _, rfl, .inr (SqT.of hb), _, _, rfl, rfl, _, _, rfl, rfl, .inl ⟨by omega, by omega⟩, _, _, rfl, rfl, ?_⟩
      unfold dM at k
      rw [if_neg lt] at k
      rw [lm]
      exact k
def spDivTo : Sp := fun vs H Q _ => ∃ (v : V) (fs : List Int) (st : Int) (m : Nat), vs = [v, .int (m : Nat)] ∧ IsM H v fs st ∧ GoodM fs st ∧ m ≤ 1000 ∧ ∀ H' r, Same H H' → Ints H' r ((List.range m).map fun k : Nat => dM fs st k) → Q r H'
abbrev nDivTo : List Str := ["method", "many", "index"]
theorem scDivTo : FnScope nDivTo ["method", "many"] (defScope s_divisors_to) := ⟨rfl, rfl, rfl, by decide +kernel, rfl, by decide +kernel, by decide +kernel⟩
theorem ok_divTo (T : Txt mg) (F : Dfn K mg "divisors_to" "divisors_to" s_divisors_to) (GD : Prm P w K mg base 1 "divisor_at" spDivAt) : Prm P w K mg base 2 "divisors_to" spDivTo := by
  refine F.prm scDivTo (fun _ _ _ _ _ _ us hl => match us, hl with | [_, _], _ => rfl) (fun vs H Q E h => ?_) (fun f cdv A outer s H vs Q E hr h => ?_)
  · obtain ⟨_, _, _, _, rfl, _⟩ := h
    rfl
  · obtain ⟨v, fs, st, m, rfl, hm, g, m1, k⟩ := h
    have nd := scDivTo.nd
    refine ⟨_, pss_one (ps_ret (pe_callTy call_tuple_of (by rfl) T.tuple (by decide +kernel) (pa_cons (pe_lc (own := [("index", 2)]) (g := gName 2) rfl nd (pi_range1 (by rfl) T.range (pa_cons (pv 1) pa_nil)) (blkOk_by (N := nDivTo) (sc := defScope s_divisors_to) (by decide +kernel))
      (fun _ _ _ _ _ => pg_name (i := 2) nd rfl (.inl rfl)) (fun _ _ _ _ _ => pts_nil) (fun _ _ _ _ _ => pe_prm GD hr (by decide) (by rfl) (pa_cons (pv 0) (pa_cons (pv 2) pa_nil)))) pa_nil))), ?_⟩
    refine ⟨_, rfl, m, rfl, by omega, by omega, fun D hD => ?_⟩
    rw [show ((m : Nat) : Int).toNat = m from rfl]
    refine lc_range (lo := 0) (n := m) (fun i H' => Same H H' ∧ H' D = some (.lst (((List.range i).map fun k : Nat => dM fs st k).map V.int))) ⟨same_new hD, upd_same⟩ (fun i H' hi ⟨sm, hd⟩ => ?_) (fun H' ⟨sm, hd⟩ => ?_)
    · rw [show (0 : Int) + (i : Int) = (i : Int) from Int.zero_add _]
      refine ⟨rfl, _, rfl, _, rfl, v, fs, st, i, rfl, hm.tk sm.tk, g, _, hd, by rw [List.length_map, List.length_map, List.length_range]; exact size4 (by omega), Same.put sm hD, ?_⟩
      rw [upd_same, List.range_succ, List.map_append, List.map_append]
      rfl
    · refine ⟨D, _, rfl, .inl ⟨SqL.of hd, fun l hl => k _ _ (Same.trans sm (same_new hl)) ⟨l, rfl, upd_same⟩⟩⟩
end
end Ds
set_option maxHeartbeats 4000000
namespace Ds
open PySem PySem.Spec PyProof.Rows L2
def wrongB (d v s : List Int) (i j : Nat) : Bool := decide (s.getD i 0 ≠ 0) && decide (v.getD i 0 * d.getD (s.getD j 0).toNat 0 < v.getD j 0 * d.getD (s.getD i 0 - 1).toNat 0)
section
variable {P : Program} {w : World} {K : PySem.W.Frag} {mg : Str → Option Value} {base : Heap}
/-! ### is_wrong, first_wrong, valid_by -/
/-- divisors, votes, seats as tuples -/
def DVS (H : Hp) (x y z : V) (d v s : List Int) : Prop := Ints H x d ∧ Ints H y v ∧ Ints H z s ∧ d.length = 9 ∧ GoodV v ∧ GoodS v s
theorem DVS.tk {H H' : Hp} {x y z : V} {d v s : List Int} (h : DVS H x y z d v s) (t : TK H H') : DVS H' x y z d v s := ⟨h.1.tk t, h.2.1.tk t, h.2.2.1.tk t, h.2.2.2⟩
def spWrong : Sp := fun vs H Q _ => ∃ (x y z : V) (d v s : List Int) (p : Addr) (i j : Nat), vs = [x, y, z, .ref p] ∧ DVS H x y z d v s ∧ H p = some (.tup [.int (i : Nat), .int (j : Nat)]) ∧ i < v.length ∧ j < v.length ∧ Q (.bl (wrongB d v s i j)) H
abbrev nWrong : List Str := ["divisors", "votes", "seats", "pair", "one", "other"]
theorem scWrong : FnScope nWrong ["divisors", "votes", "seats", "pair"] (defScope s_is_wrong) := ⟨rfl, rfl, rfl, by decide +kernel, rfl, by decide +kernel, by decide +kernel⟩
theorem ok_wrong (F : Dfn K mg "is_wrong" "is_wrong" s_is_wrong) : Prm P w K mg base 1 "is_wrong" spWrong := by
  refine F.prm scWrong (fun _ _ _ _ _ _ us hl => match us, hl with | [_, _, _, _], _ => rfl) (fun vs H Q E h => ?_) (fun f cdv A outer s H vs Q E hr h => ?_)
  · obtain ⟨_, _, _, _, _, _, _, _, _, rfl, _⟩ := h
    rfl
  · obtain ⟨x, y, z, d, v, s, p, i, j, rfl, ⟨⟨a, rfl, ha⟩, ⟨b, rfl, hb⟩, ⟨c, rfl, hc⟩, l9, gv, gs⟩, hp, hi, hj, k⟩ := h
    have nd := scWrong.nd
    have ls := gs.len
    refine ⟨_, pss_cons (ps_asg (pv 3) (pg_tup rfl (pgs_cons (pg_name (i := 4) nd rfl (.inl rfl)) (pgs_cons (pg_name (i := 5) nd rfl (.inl rfl)) pgs_nil))))
      (pss_cons (ps_if (pt_cmpR op_eq (pe_ix ix_tup (pv 2) (pv 4) (fun _ _ => rfl)) pe_int (nomark _)) (pss_one (ps_ret pe_bl)) pss_nil)
      (pss_one (ps_ret (pe_cmpR op_gt (pe_op op_mul (pe_ix ix_tup (pv 1) (pv 5) (fun _ _ => rfl)) (pe_ix ix_tup (pv 0) (pe_op op_sub (pe_ix ix_tup (pv 2) (pv 4) (fun _ _ => rfl)) pe_int) (fun _ _ => rfl)))
        (pe_op op_mul (pe_ix ix_tup (pv 1) (pv 4) (fun _ _ => rfl)) (pe_ix ix_tup (pv 0) (pe_ix ix_tup (pv 2) (pv 5) (fun _ _ => rfl)) (fun _ _ => rfl))) (nomark _))))), ?_⟩
    refine ⟨_, rfl, p, _, rfl, SqT.of hp, rfl, _, _, rfl, _, _, rfl, rfl, ?_⟩
    refine ⟨_, rfl, _, rfl, c, _, _, _, rfl, rfl, SqT.of hc, at_int rfl (by omega), rfl, _, rfl, ite2 (fun e => ?_) (fun e => ?_)⟩
    · have e : s.getD i 0 = 0 := V.int.inj (of_decide_eq_true e)
      have w0 : wrongB d v s i j = false := by
        unfold wrongB
        rw [decide_eq_false (fun z => z e)]
        rfl
      rw [w0] at k
      exact k
    · have e : s.getD i 0 ≠ 0 := fun z => e (by rw [z]; exact decide_eq_true rfl)
      have si := gs.one _ (getD_mem (l := s) (i := i) (by omega))
      have sj := gs.one _ (getD_mem (l := s) (i := j) (by omega))
      have vi := gv.one _ (getD_mem hi)
      have vj := gv.one _ (getD_mem hj)
      have w0 : wrongB d v s i j = decide (v.getD i 0 * d.getD (s.getD j 0).toNat 0 < v.getD j 0 * d.getD (s.getD i 0 - 1).toNat 0) := by
        unfold wrongB
        rw [decide_eq_true e]
        rfl
      rw [w0] at k
      refine ⟨_, rfl, _, rfl, b, _, _, _, rfl, rfl, SqT.of hb, at_int rfl hj, ?_⟩
      refine ⟨_, rfl, _, rfl, _, rfl, c, _, _, _, rfl, rfl, SqT.of hc, at_int rfl (by omega), _, _, rfl, rfl, a, _, _, _, rfl, rfl, SqT.of ha, at_int (i := (s.getD i 0 - 1).toNat) (by omega) (by omega), _, _, rfl, rfl, .inl ⟨by omega, by omega⟩, ?_⟩
      refine ⟨_, rfl, _, rfl, b, _, _, _, rfl, rfl, SqT.of hb, at_int rfl hi, ?_⟩
      exact ⟨_, rfl, _, rfl, _, rfl, c, _, _, _, rfl, rfl, SqT.of hc, at_int rfl (by omega), a, _, _, _, rfl, rfl, SqT.of ha, at_int (i := (s.getD j 0).toNat) (by omega) (by omega), _, _, rfl, rfl, .inl ⟨by omega, by omega⟩, _, _, rfl, rfl, k⟩
def spFirst : Sp := fun vs H Q _ => ∃ (x y z : V) (d v s : List Int), vs = [x, y, z] ∧ DVS H x y z d v s ∧ ∀ H' r, Same H H' → (r = .non → ∀ i j : Nat, i < v.length → j < v.length → j ≠ i → wrongB d v s i j = false) → Q r H'
abbrev nFirst : List Str := ["divisors", "votes", "seats", "one", "other"]
theorem scFirst : FnScope nFirst ["divisors", "votes", "seats"] (defScope s_first_wrong) := ⟨rfl, rfl, rfl, by decide +kernel, rfl, by decide +kernel, by decide +kernel⟩
theorem ok_first (T : Txt mg) (F : Dfn K mg "first_wrong" "first_wrong" s_first_wrong) (GW : Prm P w K mg base 1 "is_wrong" spWrong) : Prm P w K mg base 2 "first_wrong" spFirst := by
  refine F.prm scFirst (fun _ _ _ _ _ _ us hl => match us, hl with | [_, _, _], _ => rfl) (fun vs H Q E h => ?_) (fun f cdv A outer s H vs Q E hr h => ?_)
  · obtain ⟨_, _, _, _, _, _, rfl, _⟩ := h
    rfl
  · obtain ⟨x, y, z, d, v, s, rfl, hd, k⟩ := h
    obtain ⟨hx, ⟨b, rfl, hb⟩, hz, l9, gv, gs⟩ := id hd
    have nd := scFirst.nd
    have lm : (v.map V.int).length = v.length := List.length_map ..
    have l5 := gv.len
    refine ⟨_, pss_cons (ps_for PassesOwn.never rfl (pi_range1 (by rfl) T.range (pa_cons (pe_callB call_len_seq (by rfl) T.len PySem.boot_len (pa_cons (pv 1) pa_nil)) pa_nil)) (pg_name (i := 3) nd rfl (.inl rfl))
        (pss_one (ps_for PassesOwn.never rfl (pi_range1 (by rfl) T.range (pa_cons (pe_callB call_len_seq (by rfl) T.len PySem.boot_len (pa_cons (pv 1) pa_nil)) pa_nil)) (pg_name (i := 4) nd rfl (.inl rfl))
          (pss_one (ps_if (PW.pt (pw_and (pt_cmpR op_ne (pv 3) (pv 4) (nomark _)) (pw_and1 (pt_val (pe_prm GW hr (by decide) (by rfl) (pa_cons (pv 0) (pa_cons (pv 1) (pa_cons (pv 2) (pa_cons (pe_tup (pa_cons (pv 3) (pa_cons (pv 4) pa_nil))) pa_nil)))))))))
            (pss_one (ps_ret (pe_tup (pa_cons (pv 3) (pa_cons (pv 4) pa_nil))))) pss_nil)))))
      (pss_one (ps_ret pe_non)), ?_⟩
    have en : (((v.map V.int).length : Nat) : Int).toNat = v.length := lm
    refine ⟨_, rfl, b, _, rfl, .inr (SqT.of hb), _, rfl, by rw [lm]; omega, by rw [lm]; omega, ?_⟩
    rw [en]
    refine for_range (lo := 0) (n := v.length) (fun i σ H' => Same H H' ∧ (∃ s3 s4, σ = [some x, some (.ref b), some z, s3, s4]) ∧ ∀ i' j : Nat, i' < i → j < v.length → j ≠ i' → wrongB d v s i' j = false)
      ⟨Same.refl H, ⟨none, none, rfl⟩, fun i' j h => absurd h (Nat.not_lt_zero i')⟩ (fun i σ H1 hi ⟨sm, ⟨s3, s4, eσ⟩, no⟩ => ?_) (fun σ H1 ⟨sm, ⟨s3, s4, eσ⟩, no⟩ => ?_)
    · subst eσ
      rw [show (0 : Int) + (i : Int) = (i : Int) from Int.zero_add _]
      refine ⟨_, rfl, b, _, rfl, .inr (SqT.of (sm _ _ hb)), _, rfl, by rw [lm]; omega, by rw [lm]; omega, ?_⟩
      rw [en]
      refine for_range (lo := 0) (n := v.length) (fun j σ H' => Same H H' ∧ (∃ s4, σ = [some x, some (.ref b), some z, some (.int (i : Nat)), s4]) ∧ ∀ j' : Nat, j' < j → j' ≠ i → wrongB d v s i j' = false)
        ⟨sm, ⟨s4, rfl⟩, fun j' h => absurd h (Nat.not_lt_zero j')⟩ (fun j σ H2 hj ⟨sm, ⟨s4, eσ⟩, no2⟩ => ?_) (fun σ H2 ⟨sm, ⟨s4, eσ⟩, no2⟩ => ?_)
      · subst eσ
        rw [show (0 : Int) + (j : Int) = (j : Int) from Int.zero_add _]
        refine ⟨_, rfl, _, rfl, rfl, _, rfl, ite2 (fun ne => ?_) (fun ne => ?_)⟩
        · refine ⟨_, rfl, _, rfl, _, rfl, _, rfl, _, rfl, by show 2 ≤ sizeLine; decide, fun p hp => ?_⟩
          have sp := same_new (o := HO.tup [.int (i : Nat), .int (j : Nat)]) hp
          have sm2 := Same.trans sm sp
          refine ⟨x, .ref b, z, d, v, s, p, i, j, rfl, hd.tk sm2.tk, upd_same, hi, hj, _, rfl, ?_⟩
          cases hw : wrongB d v s i j with
          | true =>
            refine iteT ⟨_, rfl, _, rfl, by show 2 ≤ sizeLine; decide, fun q hq => k _ _ (Same.trans sm2 (same_new hq)) fun e => (nomatch e)⟩
          | false =>
            refine iteF ⟨sm2, ⟨_, rfl⟩, fun j' lt nj => ?_⟩
            by_cases c : j' = j
            · rw [c]
              exact hw
            · exact no2 j' (by omega) nj
        · have e : i = j := by
            by_cases c : i = j
            · exact c
            · refine absurd ?_ ne
              rw [decide_eq_false fun z => c (by injection z with z; omega)]
              rfl
          refine iteF ⟨sm, ⟨_, rfl⟩, fun j' lt nj => no2 j' (by omega) nj⟩
      · subst eσ
        refine ⟨sm, ⟨_, _, rfl⟩, fun i' j lt hj nj => ?_⟩
        by_cases c : i' = i
        · rw [c] at nj ⊢
          exact no2 j hj nj
        · exact no i' j (by omega) hj nj
    · exact k H1 .non sm fun _ i j hi hj nj => no i j hi hj nj
def spValidBy : Sp := fun vs H Q _ => ∃ (x y z : V) (d v s : List Int), vs = [x, y, z] ∧ DVS H x y z d v s ∧ ∀ H' c, Same H H' → (c = true → ∀ i j : Nat, i < v.length → j < v.length → j ≠ i → wrongB d v s i j = false) → Q (.bl c) H'
theorem scValidBy : FnScope ["divisors", "votes", "seats"] ["divisors", "votes", "seats"] (defScope s_valid_by) := ⟨rfl, rfl, rfl, by decide +kernel, rfl, by decide +kernel, by decide +kernel⟩
theorem ok_validBy (F : Dfn K mg "valid_by" "valid_by" s_valid_by) (GF : Prm P w K mg base 2 "first_wrong" spFirst) : Prm P w K mg base 3 "valid_by" spValidBy := by
  refine F.prm scValidBy (fun _ _ _ _ _ _ us hl => match us, hl with | [_, _, _], _ => rfl) (fun vs H Q E h => ?_) (fun f cdv A outer s H vs Q E hr h => ?_)
  · obtain ⟨_, _, _, _, _, _, rfl, _⟩ := h
    rfl
  · obtain ⟨x, y, z, d, v, s, rfl, hd, k⟩ := h
    refine ⟨_, pss_one (ps_ret (pe_cmpR op_isN (pe_prm GF hr (by decide) (by rfl) (pa_cons (pv 0) (pa_cons (pv 1) (pa_cons (pv 2) pa_nil)))) pe_non (nomark _))), ?_⟩
    exact ⟨_, rfl, _, rfl, _, rfl, x, y, z, d, v, s, rfl, hd, fun H' r sm hr' => ⟨rfl, k H' _ sm fun e => hr' (of_decide_eq_true e)⟩⟩
/-! ### check_votes, check_seats, is_valid -/
def spChkV : Sp := fun vs H Q _ => ∃ (x y : V) (fs : List Int) (st : Int) (v : List Int), vs = [x, y] ∧ IsM H x fs st ∧ GoodM fs st ∧ Ints H y v ∧ GoodV v ∧ ∀ H', Same H H' → Q .non H'
theorem scChkV : FnScope ["method", "votes"] ["method", "votes"] (defScope s_check_votes) := ⟨rfl, rfl, rfl, by decide +kernel, rfl, by decide +kernel, by decide +kernel⟩
theorem ok_chkV (F : Dfn K mg "check_votes" "check_votes" s_check_votes) (GM : Prm P w K mg base 3 "check_method" spChkM) (GV : Prm P w K mg base 2 "is_votes" spVotes) : Prm P w K mg base 4 "check_votes" spChkV := by
  refine F.prm scChkV (fun _ _ _ _ _ _ us hl => match us, hl with | [_, _], _ => rfl) (fun vs H Q E h => ?_) (fun f cdv A outer s H vs Q E hr h => ?_)
  · obtain ⟨_, _, _, _, _, rfl, _⟩ := h
    rfl
  · obtain ⟨x, y, fs, st, v, rfl, hm, gm, hv, gv, k⟩ := h
    refine ⟨_, pss_cons (ps_expr (pe_prm GM hr (by decide) (by rfl) (pa_cons (pv 0) (pa_cons pe_str pa_nil)))) (pss_one (ps_if (pt_not (pt_val (pe_prm GV hr (by decide) (by rfl) (pa_cons (pv 1) pa_nil)))) pss_never pss_nil)), ?_⟩
    exact ⟨_, rfl, x, _, fs, st, rfl, hm, gm, fun H1 s1 => ⟨_, rfl, y, v, rfl, hv.tk s1.tk, gv, fun H2 s2 => ⟨_, rfl, iteF (k H2 (Same.trans s1 s2))⟩⟩⟩
def spChkS : Sp := fun vs H Q _ => ∃ (x y z : V) (fs : List Int) (st : Int) (v s : List Int), vs = [x, y, z] ∧ IsM H x fs st ∧ GoodM fs st ∧ Ints H y v ∧ GoodV v ∧ Ints H z s ∧ GoodS v s ∧ ∀ H', Same H H' → Q .non H'
theorem scChkS : FnScope ["method", "votes", "seats"] ["method", "votes", "seats"] (defScope s_check_seats) := ⟨rfl, rfl, rfl, by decide +kernel, rfl, by decide +kernel, by decide +kernel⟩
theorem ok_chkS (F : Dfn K mg "check_seats" "check_seats" s_check_seats) (GV : Prm P w K mg base 4 "check_votes" spChkV) (GS : Prm P w K mg base 2 "is_seats" spSeats) : Prm P w K mg base 5 "check_seats" spChkS := by
  refine F.prm scChkS (fun _ _ _ _ _ _ us hl => match us, hl with | [_, _, _], _ => rfl) (fun vs H Q E h => ?_) (fun f cdv A outer s H vs Q E hr h => ?_)
  · obtain ⟨_, _, _, _, _, _, _, rfl, _⟩ := h
    rfl
  · obtain ⟨x, y, z, fs, st, v, s, rfl, hm, gm, hv, gv, hs, gs, k⟩ := h
    refine ⟨_, pss_cons (ps_expr (pe_prm GV hr (by decide) (by rfl) (pa_cons (pv 0) (pa_cons (pv 1) pa_nil)))) (pss_one (ps_if (pt_not (pt_val (pe_prm GS hr (by decide) (by rfl) (pa_cons (pv 2) (pa_cons (pv 1) pa_nil))))) pss_never pss_nil)), ?_⟩
    exact ⟨_, rfl, _, rfl, x, y, fs, st, v, rfl, hm, gm, hv, gv, fun H1 s1 => ⟨_, rfl, _, rfl, z, y, s, v, rfl, hs.tk s1.tk, hv.tk s1.tk, gv, gs, fun H2 s2 => ⟨_, rfl, iteF (k H2 (Same.trans s1 s2))⟩⟩⟩
def spValid : Sp := fun vs H Q _ => ∃ (x y z : V) (fs : List Int) (st : Int) (v s : List Int), vs = [x, y, z] ∧ IsM H x fs st ∧ GoodM fs st ∧ Ints H y v ∧ GoodV v ∧ Ints H z s ∧ GoodS v s ∧ ∀ H' c, Same H H' → (c = true → Keeps (dM fs st) v s) → Q (.bl c) H'
theorem keeps_of {fs : List Int} {st : Int} {v s : List Int} (gs : GoodS v s) (h : ∀ i j : Nat, i < v.length → j < v.length → j ≠ i → wrongB ((List.range 9).map fun k : Nat => dM fs st k) v s i j = false) : Keeps (dM fs st) v s := by
  intro i j hi hj nj pos
  have b := h i j hi hj nj
  have ls := gs.len
  have s8 := gs.one _ (getD_mem (l := s) (i := i) (by omega))
  have t8 := gs.one _ (getD_mem (l := s) (i := j) (by omega))
  have at_ : ∀ k : Int, 0 ≤ k → k ≤ 8 → ((List.range 9).map fun k : Nat => dM fs st k).getD k.toNat 0 = dM fs st k := fun k h0 h8 => by
    have hk : k.toNat < 9 := by omega
    rw [List.getD, List.getElem?_map, List.getElem?_range hk]
    show dM fs st ((k.toNat : Nat) : Int) = dM fs st k
    rw [Int.toNat_of_nonneg h0]
  unfold wrongB at b
  rw [decide_eq_true (show s.getD i 0 ≠ 0 by omega), Bool.true_and, at_ _ t8.1 t8.2, at_ _ (by omega) (by omega)] at b
  have := of_decide_eq_false b
  omega
theorem scValid : FnScope ["method", "votes", "seats"] ["method", "votes", "seats"] (defScope s_is_valid) := ⟨rfl, rfl, rfl, by decide +kernel, rfl, by decide +kernel, by decide +kernel⟩
theorem ok_valid (T : Txt mg) (F : Dfn K mg "is_valid" "is_valid" s_is_valid) (GC : Prm P w K mg base 5 "check_seats" spChkS) (GV : Prm P w K mg base 3 "valid_by" spValidBy) (GD : Prm P w K mg base 2 "divisors_to" spDivTo) : Prm P w K mg base 6 "is_valid" spValid := by
  refine F.prm scValid (fun _ _ _ _ _ _ us hl => match us, hl with | [_, _, _], _ => rfl) (fun vs H Q E h => ?_) (fun f cdv A outer s H vs Q E hr h => ?_)
  · obtain ⟨_, _, _, _, _, _, _, rfl, _⟩ := h
    rfl
  · obtain ⟨x, y, z, fs, st, v, s, rfl, hm, gm, hv, gv, hs, gs, k⟩ := h
    refine ⟨_, pss_cons (ps_expr (pe_prm GC hr (by decide) (by rfl) (pa_cons (pv 0) (pa_cons (pv 1) (pa_cons (pv 2) pa_nil)))))
      (pss_one (ps_ret (pe_prm GV hr (by decide) (by rfl) (pa_cons (pe_prm GD hr (by decide) (by rfl) (pa_cons (pv 0) (pa_cons (pe_op op_add (pe_gint (by rfl) T.mSeats) pe_int) pa_nil))) (pa_cons (pv 1) (pa_cons (pv 2) pa_nil)))))), ?_⟩
    refine ⟨_, rfl, _, rfl, _, rfl, x, y, z, fs, st, v, s, rfl, hm, gm, hv, gv, hs, gs, fun H1 s1 => ?_⟩
    refine ⟨_, rfl, _, _, rfl, rfl, x, fs, st, 9, rfl, hm.tk s1.tk, gm, by decide, fun H2 r s2 hr2 => ?_⟩
    have s12 := Same.trans s1 s2
    exact ⟨_, rfl, _, rfl, r, y, z, _, v, s, rfl, ⟨hr2, hv.tk s12.tk, hs.tk s12.tk, by rw [List.length_map, List.length_range], gv, gs⟩, fun H3 c s3 hc => k H3 c (Same.trans s12 s3) fun e => keeps_of gs (hc e)⟩
end
end Ds
set_option maxHeartbeats 4000000
namespace Ds
open PySem PySem.Spec PyProof.Rows L2
section
variable {P : Program} {w : World} {K : PySem.W.Frag} {mg : Str → Option Value} {base : Heap}
/-! ### all_seats -/
def RowV (H : Hp) (v : V) (r : Row) : Prop := ∃ a x, v = .ref a ∧ H a = some (.tup [x, .int r.2]) ∧ Ints H x r.1
theorem RowV.tk {H H' : Hp} {v : V} {r : Row} (h : RowV H v r) (s : TK H H') : RowV H' v r := let ⟨a, x, e, q, i⟩ := h; ⟨a, x, e, s _ _ q, i.tk s⟩
theorem rowsV_tk {H H' : Hp} {xs : List V} {rs : List Row} (h : Paired (RowV H) xs rs) (s : TK H H') : Paired (RowV H') xs rs := paired_mono h fun _ _ r => r.tk s
theorem ints_tk {H H' : Hp} {xs : List V} {rs : List (List Int)} (h : Paired (Ints H) xs rs) (s : TK H H') : Paired (Ints H') xs rs := paired_mono h fun _ _ r => r.tk s
def spAll : Sp := fun vs H Q _ => ∃ (n : Nat) (house : Int), vs = [.int (n : Nat), .int house] ∧ n ≤ 5 ∧ 0 ≤ house ∧ house ≤ 8 ∧ ∀ H' L xs, Same H H' → H L = none → H' L = some (.lst xs) → Paired (Ints H') xs (allSeats n house) → Q (.ref L) H'
abbrev nAll : List Str := ["many", "house", "rows", "party", "longer", "row", "left", "less"]
theorem scAll : FnScope nAll ["many", "house"] (defScope s_all_seats) := ⟨rfl, rfl, rfl, by decide +kernel, rfl, by decide +kernel, by decide +kernel⟩
def teAll (K : PySem.W.Frag) : TE := tTup (tCons (tOp (rCatA K) (tVar 5) (tTup (tCons (tOp (rI0 fun i j => .int (i - j)) (tVar 6) (tVar 7)) tNil))) (tCons (tVar 7) tNil))
theorem take_flat {α β : Type} {f : α → List β} {l : List α} {i : Nat} {x : α} (h : l[i]? = some x) : (l.take (i + 1)).flatMap f = (l.take i).flatMap f ++ f x := by
  rw [List.take_add_one, h, Option.toList_some, List.flatMap_append, List.flatMap_singleton]
theorem ok_all (T : Txt mg) (F : Dfn K mg "all_seats" "all_seats" s_all_seats) : Prm P w K mg base 1 "all_seats" spAll := by
  refine F.prm scAll (fun _ _ _ _ _ _ us hl => match us, hl with | [_, _], _ => rfl) (fun vs H Q E h => ?_) (fun f cdv A outer s H vs Q E hr h => ?_)
  · obtain ⟨_, _, rfl, _⟩ := h
    rfl
  · obtain ⟨n, house, rfl, n5, h0, h8, k⟩ := h
    have nd := scAll.nd
    refine ⟨_, pss_cons (ps_set (i := 2) nd rfl (.inl rfl) (pe_lst (pa_cons (pe_tup (pa_cons (pe_tup pa_nil) (pa_cons (pv 1) pa_nil))) pa_nil)))
      (pss_cons (ps_for PassesOwn.never rfl (pi_range1 (by rfl) T.range (pa_cons (pv 0) pa_nil)) (pg_name (i := 3) nd rfl (.inl rfl))
        (pss_cons (ps_set (i := 4) nd rfl (.inl rfl) (pe_lst pa_nil))
        (pss_cons (ps_for PassesOwn.never rfl (pi_list (pv 2)) (pg_tup rfl (pgs_cons (pg_name (i := 5) nd rfl (.inr rfl)) (pgs_cons (pg_name (i := 6) nd rfl (.inr rfl)) pgs_nil)))
          (pss_one (ps_expr (pe_bm PySem.F.plainAttrs_list PySem.F.slot_list_extend PySem.F.type_list_extend mt_extend (pv 4)
            (pa_cons (pe_lc (own := [("less", 7)]) (g := gName 7) (te := teAll K) rfl nd (pi_range1 (by rfl) T.range (pa_cons (pe_op op_add (pv 6) pe_int) pa_nil)) (blkOk_by (N := nAll) (sc := defScope s_all_seats) (by decide +kernel))
              (fun _ _ _ _ _ => pg_name (i := 7) nd rfl (.inl rfl)) (fun _ _ _ _ _ => pts_nil)
              (fun _ _ _ _ _ => pe_tup (pa_cons (pe_op op_catA (pv 5) (pe_tup (pa_cons (pe_op op_sub (pv 6) (pv 7)) pa_nil))) (pa_cons (pv 7) pa_nil)))) pa_nil)))))
        (pss_one (ps_set (i := 2) nd rfl (.inl rfl) (pv 4))))))
      (pss_one (ps_ret (pe_lc (own := [("row", 5), ("left", 6)]) (g := g2 K 5 6) rfl nd (pi_list (pv 2)) (blkOk_by (N := nAll) (sc := defScope s_all_seats) (by decide +kernel))
        (fun _ _ _ _ _ => pg_tup rfl (pgs_cons (pg_name (i := 5) nd rfl (.inl rfl)) (pgs_cons (pg_name (i := 6) nd rfl (.inl rfl)) pgs_nil)))
        (fun _ _ _ _ _ => pts_one (pt_cmpR op_eq (pv 6) pe_int (nomark _))) (fun _ _ _ _ _ => pv 5))))), ?_⟩
    -- rows = [((), house)]
    refine ⟨Nat.zero_le _, fun p hp => ?_⟩
    have sp := same_new (o := HO.tup []) hp
    generalize eHp : upd H p (HO.tup []) = H1 at sp
    have hpp : H1 p = some (.tup []) := by rw [← eHp]; exact upd_same
    refine ⟨_, rfl, by show 2 ≤ sizeLine; decide, fun q hq => ?_⟩
    have sq := same_new (o := HO.tup [.ref p, .int house]) hq
    generalize eHq : upd H1 q (HO.tup [.ref p, .int house]) = H2 at sq
    have hqq : H2 q = some (.tup [.ref p, .int house]) := by rw [← eHq]; exact upd_same
    refine ⟨by show 1 ≤ sizeLine; decide, fun L hL => ?_⟩
    have sL := same_new (o := HO.lst [.ref q]) hL
    have s03 := Same.trans (Same.trans sp sq) sL
    have hL0 : H L = none := Same.free (Same.trans sp sq) hL
    refine ⟨_, rfl, n, rfl, by omega, by omega, ?_⟩
    rw [show ((n : Nat) : Int).toNat = n from rfl]
    refine for_range (lo := 0) (n := n) (fun i σ H' => Same H H' ∧ ∃ M xs s3 s4 s5 s6, σ = [some (.int (n : Nat)), some (.int house), some (.ref M), s3, s4, s5, s6, none] ∧ H M = none ∧ H' M = some (.lst xs) ∧ Paired (RowV H') xs (seatRows house i))
      ⟨s03, L, [.ref q], none, none, none, none, rfl, hL0, upd_same, .cons ⟨q, .ref p, rfl, sL _ _ hqq, p, rfl, sL _ _ (sq _ _ hpp)⟩ .nil⟩ (fun i σ H' hi ⟨sm, M, xs, s3, s4, s5, s6, eσ, hM0, hM, pr⟩ => ?_) (fun σ H' ⟨sm, M, xs, s3, s4, s5, s6, eσ, hM0, hM, pr⟩ => ?_)
    · subst eσ
      have lx := Paired.length pr
      have lr : (seatRows house i).length ≤ 9 ^ 4 := Nat.le_trans (rows_len h0 h8 i) (Nat.pow_le_pow_right (by decide) (by omega))
      refine ⟨Nat.zero_le _, fun G hG => ?_⟩
      have sG := same_new (o := HO.lst []) hG
      have hG0 := Same.free sm hG
      have nMG : M ≠ G := ne_of_none hM hG
      generalize eHG : upd H' G (HO.lst []) = H3 at sG
      have hGG : H3 G = some (.lst []) := by rw [← eHG]; exact upd_same
      have hM3 := sG _ _ hM
      have pr3 := rowsV_tk pr sG.tk
      refine ⟨_, rfl, M, rfl, ⟨xs, SqL.of hM3⟩, for_list (K := K) (a := M) (xs := xs) (fun j σ H' => Same H H' ∧ (∃ s5 s6, σ = [some (.int (n : Nat)), some (.int house), some (.ref M), some (.int (0 + (i : Int))), some (.ref G), s5, s6, none]) ∧ H' M = some (.lst xs) ∧ Paired (RowV H') xs (seatRows house i) ∧
          ∃ ys, H' G = some (.lst ys) ∧ Paired (RowV H') ys (((seatRows house i).take j).flatMap stepRow))
        ⟨Same.trans sm sG, ⟨s5, s6, rfl⟩, hM3, pr3, [], hGG, .nil⟩ (fun j σ H' _ ⟨_, _, h, _⟩ => SqL.of h) (fun j x σ H4 hj ⟨sm4, ⟨s5, s6, eσ⟩, hM4, pr4, ys, hG4, py⟩ => ?_) (fun σ H4 ⟨sm4, ⟨s5, s6, eσ⟩, hM4, pr4, ys, hG4, py⟩ => ?_)⟩
      · subst eσ
        obtain ⟨r, hr1, a, x1, rfl, ha, b, rfl, hb⟩ := paired_get pr4 hj
        have ok := rows_is h0 i r (List.mem_of_getElem? hr1)
        have lj := (List.getElem?_eq_some_iff.mp hr1).1
        have okl := ok.left
        have oks := ok.sum
        have oksn := sum_nn ok.nn
        refine ⟨a, _, rfl, SqT.of ha, rfl, _, _, rfl, _, _, rfl, rfl, ?_⟩
        refine ⟨_, rfl, .inl ⟨rfl, _, SqL.of hG4⟩, ?_⟩
        refine ⟨_, rfl, _, _, rfl, rfl, _, rfl, by omega, by omega, fun D hD => ?_⟩
        rw [show (r.2 + 1).toNat = r.2.toNat + 1 by omega]
        have nGD : G ≠ D := ne_of_none hG4 hD
        refine lc_range (lo := 0) (n := r.2.toNat + 1) (fun m H' => Same H4 H' ∧ ∃ zs, H' D = some (.lst zs) ∧ Paired (RowV H') zs ((List.range m).map fun less : Nat => (r.1 ++ [r.2 - (less : Int)], (less : Int))))
          ⟨same_new hD, [], upd_same, .nil⟩ (fun m H5 hm ⟨sm5, zs, hzs, pz⟩ => ?_) (fun H5 ⟨sm5, zs, hzs, pz⟩ => ?_)
        · rw [show (0 : Int) + (m : Int) = (m : Int) from Int.zero_add _]
          have lz := Paired.length pz
          rw [List.length_map, List.length_range] at lz
          refine ⟨rfl, _, rfl, _, rfl, _, rfl, _, _, rfl, rfl, by show 1 ≤ sizeLine; decide, fun c hc => ?_⟩
          have sc := same_new (o := HO.tup [.int (r.2 - (m : Int))]) hc
          generalize eHc : upd H5 c (HO.tup [.int (r.2 - (m : Int))]) = H6 at sc
          have hcc : H6 c = some (.tup [.int (r.2 - (m : Int))]) := by rw [← eHc]; exact upd_same
          have hb6 := sc _ _ (sm5 _ _ hb)
          -- from the new row on
          have fin : ∀ (x2 : V) (H7 : Hp), Same H6 H7 → Ints H7 x2 (r.1 ++ [r.2 - (m : Int)]) → tCons (tVar 7) tNil [some (.int (n : Nat)), some (.int house), some (.ref M), some (.int (0 + (i : Int))), some (.ref G), some (.ref b), some (.int r.2), some (.int (m : Int))] H7 fun us H8 => (x2 :: us).length ≤ sizeLine ∧ ∀ p, H8 p = none → ∃ acc, (upd H8 p (.tup (x2 :: us))) D = some (.lst acc) ∧ acc.length < sizeLine ∧
              (Same H4 (upd (upd H8 p (.tup (x2 :: us))) D (.lst (acc ++ [.ref p]))) ∧ ∃ zs, (upd (upd H8 p (.tup (x2 :: us))) D (.lst (acc ++ [.ref p]))) D = some (.lst zs) ∧ Paired (RowV (upd (upd H8 p (.tup (x2 :: us))) D (.lst (acc ++ [.ref p])))) zs ((List.range (m + 1)).map fun less : Nat => (r.1 ++ [r.2 - (less : Int)], (less : Int)))) := fun x2 H7 s7 hx2 => by
            refine ⟨_, rfl, by show 2 ≤ sizeLine; decide, fun e he => ?_⟩
            have se := same_new (o := HO.tup [x2, .int (m : Int)]) he
            have hD8 := se _ _ (s7 _ _ (sc _ _ hzs))
            have tkD : TK (upd H7 e (HO.tup [x2, .int (m : Int)])) (upd (upd H7 e (HO.tup [x2, .int (m : Int)])) D (.lst (zs ++ [.ref e]))) := TK.put (TK.refl _) fun z q => by rw [hD8] at q; cases q
            have tkA : TK H5 (upd (upd H7 e (HO.tup [x2, .int (m : Int)])) D (.lst (zs ++ [.ref e]))) := (Same.trans (Same.trans sc s7) se).tk.trans tkD
            refine ⟨zs, hD8, size4 (by omega), Same.put (Same.trans (Same.trans (Same.trans sm5 sc) s7) se) hD, _, upd_same, ?_⟩
            rw [List.range_succ, List.map_append]
            exact paired_snoc (rowsV_tk pz tkA) ⟨e, x2, rfl, tkD _ _ upd_same, hx2.tk (se.tk.trans tkD)⟩
          refine ⟨b, c, _, _, rfl, rfl, SqT.of hb6, SqT.of hcc, ?_, fun e => ?_, fun _ e => (nomatch e), fun _ _ d hd => ?_⟩
          · rw [List.length_map, ok.len]
            exact size5 (by show i + 1 ≤ 100000; omega)
          · have e0 : r.1 = [] := List.map_eq_nil_iff.mp e
            exact fin (.ref c) H6 (Same.refl _) ⟨c, rfl, by rw [e0]; exact hcc⟩
          · refine fin (.ref d) _ (same_new hd) ⟨d, rfl, ?_⟩
            rw [upd_same]
            show some (HO.tup (r.1.map V.int ++ [V.int (r.2 - (m : Int))])) = some (tupI (r.1 ++ [r.2 - (m : Int)]))
            unfold tupI
            rw [List.map_append]
            rfl
        · have hG5 := sm5 _ _ hG4
          have ez : (List.range (r.2.toNat + 1)).map (fun less : Nat => (r.1 ++ [r.2 - (less : Int)], (less : Int))) = stepRow r := rfl
          rw [ez] at pz
          have tkG : TK H5 (upd H5 G (.lst (ys ++ zs))) := TK.put (TK.refl _) fun z q => by rw [hG5] at q; cases q
          have hM5 := sm5 _ _ hM4
          refine ⟨G, D, ys, zs, rfl, rfl, hG5, hzs, ?_, Same.put (Same.trans sm4 sm5) hG0, ⟨_, _, rfl⟩, by rw [upd_ne nMG]; exact hM5, rowsV_tk pr4 (sm5.tk.trans tkG), _, upd_same, ?_⟩
          · rw [Paired.length py, Paired.length pz]
            have a1 := flat_le (f := stepRow) (m := 9) ((seatRows house i).take j) fun r hr => stepRow_len h8 (rows_is h0 i r (List.mem_of_mem_take hr))
            have a2 := stepRow_len h8 ok
            rw [List.length_take] at a1
            refine size5 ?_
            have a3 : min j (seatRows house i).length ≤ 6560 := by
              have : (9 : Nat) ^ 4 = 6561 := by decide
              omega
            omega
          · rw [take_flat hr1]
            exact paired_app (rowsV_tk py (sm5.tk.trans tkG)) (rowsV_tk pz tkG)
      · subst eσ
        rw [lx, List.take_length] at py
        exact ⟨_, rfl, sm4, G, ys, _, _, _, _, rfl, hG0, hG4, py⟩
    · subst eσ
      have lx := Paired.length pr
      have lr : (seatRows house n).length ≤ 9 ^ 5 := Nat.le_trans (rows_len h0 h8 n) (Nat.pow_le_pow_right (by decide) n5)
      refine ⟨_, rfl, M, rfl, ⟨xs, SqL.of hM⟩, fun D hD => lc_list (K := K) (a := M) (xs := xs) (fun j H2 => Same H' H2 ∧ ∃ ys, H2 D = some (.lst ys) ∧ Paired (Ints H2) ys ((((seatRows house n).take j).filter fun r : Row => decide (r.2 = 0)).map fun r : Row => r.1))
        ⟨same_new hD, [], upd_same, .nil⟩ (fun j H2 _ ⟨sm2, _⟩ => SqL.of (sm2 _ _ hM)) (fun j x H2 hj ⟨sm2, ys, hys, py⟩ => ?_) (fun H2 ⟨sm2, ys, hys, py⟩ => ?_)⟩
      · obtain ⟨r, hr1, a, x1, rfl, ha, hx1⟩ := paired_get pr hj
        have lj := (List.getElem?_eq_some_iff.mp hr1).1
        refine ⟨a, _, rfl, SqT.of (sm2 _ _ ha), rfl, _, _, rfl, _, _, rfl, rfl, rfl, ?_⟩
        have et : ((seatRows house n).take (j + 1)).filter (fun r : Row => decide (r.2 = 0)) = ((seatRows house n).take j).filter (fun r : Row => decide (r.2 = 0)) ++ (if decide (r.2 = 0) = true then [r] else []) := by
          rw [List.take_add_one, hr1, Option.toList_some, List.filter_append, List.filter_cons, List.filter_nil]
        refine ⟨_, rfl, rfl, _, rfl, ite2 (fun e => ?_) (fun e => ?_)⟩
        · have e : r.2 = 0 := V.int.inj (of_decide_eq_true e)
          rw [if_pos (decide_eq_true e)] at et
          have tkD : TK H2 (upd H2 D (.lst (ys ++ [x1]))) := TK.put (TK.refl _) fun z q => by rw [hys] at q; cases q
          refine ⟨_, rfl, ys, hys, ?_, Same.put sm2 hD, _, upd_same, ?_⟩
          · rw [Paired.length py, List.length_map]
            have := List.length_filter_le (fun r : Row => decide (r.2 = 0)) ((seatRows house n).take j)
            rw [List.length_take] at this
            have : (9 : Nat) ^ 5 = 59049 := by decide
            exact size4 (by omega)
          · rw [et, List.map_append]
            exact paired_snoc (ints_tk py tkD) (hx1.tk (sm2.tk.trans tkD))
        · have e : ¬ r.2 = 0 := fun z => e (by rw [z]; exact decide_eq_true rfl)
          rw [if_neg (by rw [decide_eq_true_eq]; exact e), List.append_nil] at et
          exact ⟨sm2, ys, hys, by rw [et]; exact py⟩
      · rw [lx, List.take_length] at py
        exact k H2 D ys (Same.trans sm sm2) (Same.free sm hD) hys py
end
end Ds
set_option maxHeartbeats 4000000
namespace Ds
open PySem PySem.Spec PyProof.Rows L2
theorem rd_ne : ¬ (("round" : Str) = "divisors") := by decide +kernel
theorem goodS_of {v s : List Int} {house : Int} (h0 : 0 ≤ house) (h8 : house ≤ 8) (h : s ∈ allSeats v.length house) : GoodS v s := by
  obtain ⟨a, b, c⟩ := (mem_allSeats h0).mp h
  refine ⟨a, fun x hx => ⟨b x hx, ?_⟩, by omega⟩
  have := le_sum b x hx
  omega
section
variable {P : Program} {w : World} {K : PySem.W.Frag} {mg : Str → Option Value} {base : Heap}
/-! ### possible_shares -/
/-- what the callers know of results, votes, house -/
def Asked (H : Hp) (x y : V) (rs : List Res) (v : List Int) (house : Int) : Prop := IsRs H x rs ∧ (∀ r ∈ rs, GoodR r) ∧ rs.length ≤ 6 ∧ Ints H y v ∧ GoodV v ∧ 0 ≤ house ∧ house ≤ 8
theorem Asked.tk {H H' : Hp} {x y : V} {rs : List Res} {v : List Int} {house : Int} (h : Asked H x y rs v house) (s : TK H H') : Asked H' x y rs v house := let ⟨a, b, c, d, e⟩ := h; ⟨a.tk s, b, c, d.tk s, e⟩
def spShares : Sp := fun vs H Q _ => ∃ (x y : V) (rs : List Res) (v : List Int) (house : Int), vs = [x, y, .int house] ∧ Asked H x y rs v house ∧ ∀ H' L xs, Same H H' → H L = none → H' L = some (.lst xs) → Paired (Ints H') xs (posL rs v house) → Q (.ref L) H'
abbrev nShares : List Str := ["results", "votes", "house", "seats"]
theorem scShares : FnScope nShares ["results", "votes", "house"] (defScope s_possible_shares) := ⟨rfl, rfl, rfl, by decide +kernel, rfl, by decide +kernel, by decide +kernel⟩
def ttShares (K : PySem.W.Frag) : TT := tTest (tOp rEq (tOp (rIxT K) (tCall spFit [] E0 (tCons (tCall spBehind [] E0 (tCons (tVar 0) (tCons (tVar 1) (tCons (tVar 3) tNil)))) tNil)) (tC (.int 0))) (tC (.str "divisors")))
theorem ok_shares (T : Txt mg) (F : Dfn K mg "possible_shares" "possible_shares" s_possible_shares) (GA : Prm P w K mg base 1 "all_seats" spAll) (GF : Prm P w K mg base 4 "fit" spFit) (GB : Prm P w K mg base 1 "behind" spBehind) : Prm P w K mg base 5 "possible_shares" spShares := by
  refine F.prm scShares (fun _ _ _ _ _ _ us hl => match us, hl with | [_, _, _], _ => rfl) (fun vs H Q E h => ?_) (fun f cdv A outer s H vs Q E hr h => ?_)
  · obtain ⟨_, _, _, _, _, rfl, _⟩ := h
    rfl
  · obtain ⟨x, y, rs, v, house, rfl, ⟨hR, hg, l6, ⟨b, rfl, hb⟩, gv, h0, h8⟩, k⟩ := h
    have nd := scShares.nd
    have l5 := gv.len
    refine ⟨_, pss_one (ps_ret (pe_lc (own := [("seats", 3)]) (g := gName 3) (tt := ttShares K) rfl nd (pi_list (pe_prm GA hr (by decide) (by rfl) (pa_cons (pe_callB call_len_seq (by rfl) T.len PySem.boot_len (pa_cons (pv 1) pa_nil)) (pa_cons (pv 2) pa_nil))))
      (blkOk_by (N := nShares) (sc := defScope s_possible_shares) (by decide +kernel)) (fun _ _ _ _ _ => pg_name (i := 3) nd rfl (.inl rfl))
      (fun _ _ _ _ _ => pts_one (pt_cmpR op_eq (pe_ix ix_tup (pe_prm GF hr (by decide) (by rfl) (pa_cons (pe_prm GB hr (by decide) (by rfl) (pa_cons (pv 0) (pa_cons (pv 1) (pa_cons (pv 3) pa_nil)))) pa_nil)) pe_int (fun _ _ => rfl)) pe_str (nomark _))) (fun _ _ _ _ _ => pv 3))), ?_⟩
    refine ⟨_, rfl, b, _, rfl, .inr (SqT.of hb), _, rfl, v.length, house, by rw [List.length_map]; rfl, l5, h0, h8, fun H1 L xs s1 hL0 hL pxs => ?_⟩
    have la : (allSeats v.length house).length ≤ 59049 := by
      unfold allSeats
      rw [List.length_map]
      have a1 := List.length_filter_le (fun r : Row => decide (r.2 = 0)) (seatRows house v.length)
      have a2 := rows_len h0 h8 v.length
      have a3 : 9 ^ v.length ≤ 9 ^ 5 := Nat.pow_le_pow_right (by decide) l5
      have a4 : (9 : Nat) ^ 5 = 59049 := by decide
      omega
    have lx := Paired.length pxs
    refine ⟨L, rfl, ⟨xs, SqL.of hL⟩, fun D hD => lc_list (K := K) (a := L) (xs := xs) (fun i H' => Same H1 H' ∧ ∃ ys, H' D = some (.lst ys) ∧ Paired (Ints H') ys (((allSeats v.length house).take i).filter fun s : List Int => okB (rs ++ [(v, s)])))
      ⟨same_new hD, [], upd_same, .nil⟩ (fun i H' _ ⟨sm, _⟩ => SqL.of (sm _ _ hL)) (fun i z H' hi ⟨sm, ys, hys, py⟩ => ?_) (fun H' ⟨sm, ys, hys, py⟩ => ?_)⟩
    · obtain ⟨s0, hs0, hz⟩ := paired_get pxs hi
      have li := (List.getElem?_eq_some_iff.mp hi).1
      have gs := goodS_of h0 h8 (List.mem_of_getElem? hs0)
      have sm1 := Same.trans s1 sm
      have et : ((allSeats v.length house).take (i + 1)).filter (fun s : List Int => okB (rs ++ [(v, s)])) = ((allSeats v.length house).take i).filter (fun s : List Int => okB (rs ++ [(v, s)])) ++ (if okB (rs ++ [(v, s0)]) = true then [s0] else []) := by
        rw [List.take_add_one, hs0, Option.toList_some, List.filter_append, List.filter_cons, List.filter_nil]
      refine ⟨rfl, _, rfl, _, rfl, _, rfl, x, .ref b, z, rs, v, s0, rfl, hR.tk sm1.tk, ⟨b, rfl, sm1 _ _ hb⟩, hz.tk sm.tk, by omega, fun H2 r s2 hr2 => ?_⟩
      have gall : ∀ r ∈ rs ++ [(v, s0)], GoodR r := fun r hr => by
        rcases List.mem_append.mp hr with hr | hr
        · exact hg r hr
        · rw [List.mem_singleton.mp hr]
          exact ⟨gv, gs⟩
      refine ⟨r, _, rfl, hr2, gall, by rw [List.length_append]; show rs.length + 1 ≤ 8; omega, fun H3 t xx zz s3 ht hzz => ?_⟩
      have s23 := Same.trans s2 s3
      refine ⟨t, _, 0, .str zz, rfl, rfl, SqT.of ht, atI_nat (j := 0) rfl, rfl, _, rfl, ?_⟩
      have hys3 := s23 _ _ hys
      rcases hzz with ⟨e, hround⟩ | ⟨e, hno⟩
      · rw [e, decide_eq_false (fun q => rd_ne (V.str.inj q))]
        rw [okB_false.mpr hround, if_neg (by decide), List.append_nil] at et
        refine iteF ⟨Same.trans sm s23, ys, hys3, ?_⟩
        rw [et]
        exact ints_tk py s23.tk
      · rw [e, decide_eq_true rfl]
        rw [okB_true.mpr hno, if_pos rfl] at et
        have tkD : TK H3 (upd H3 D (.lst (ys ++ [z]))) := TK.put (TK.refl _) fun q e => by rw [hys3] at e; cases e
        refine iteT ⟨_, rfl, ys, hys3, ?_, Same.put (Same.trans sm s23) hD, _, upd_same, ?_⟩
        · rw [Paired.length py]
          have a1 := List.length_filter_le (fun s : List Int => okB (rs ++ [(v, s)])) ((allSeats v.length house).take i)
          rw [List.length_take] at a1
          exact size4 (by omega)
        · rw [et]
          exact paired_snoc (ints_tk py (s23.tk.trans tkD)) (hz.tk ((sm.tk.trans s23.tk).trans tkD))
    · rw [lx, List.take_length] at py
      exact k H' D ys (Same.trans s1 sm) (Same.free s1 hD) hys py
/-! ### check_asked, possible, certain -/
def spAsked : Sp := fun vs H Q _ => ∃ (x y : V) (rs : List Res) (v : List Int) (house : Int), vs = [x, y, .int house] ∧ Asked H x y rs v house ∧ ∀ H', Same H H' → Q .non H'
theorem scAsked : FnScope ["results", "votes", "house"] ["results", "votes", "house"] (defScope s_check_asked) := ⟨rfl, rfl, rfl, by decide +kernel, rfl, by decide +kernel, by decide +kernel⟩
theorem ok_asked (T : Txt mg) (F : Dfn K mg "check_asked" "check_asked" s_check_asked) (GC : Prm P w K mg base 5 "check_results" spChkR) (GV : Prm P w K mg base 2 "is_votes" spVotes) (GW : Prm P w K mg base 1 "is_whole_fitting" spInt) : Prm P w K mg base 6 "check_asked" spAsked := by
  refine F.prm scAsked (fun _ _ _ _ _ _ us hl => match us, hl with | [_, _, _], _ => rfl) (fun vs H Q E h => ?_) (fun f cdv A outer s H vs Q E hr h => ?_)
  · obtain ⟨_, _, _, _, _, rfl, _⟩ := h
    rfl
  · obtain ⟨x, y, rs, v, house, rfl, ⟨hR, hg, l6, hv, gv, h0, h8⟩, k⟩ := h
    refine ⟨_, pss_cons (ps_expr (pe_prm GC hr (by decide) (by rfl) (pa_cons (pv 0) pa_nil)))
      (pss_cons (ps_if (pt_not (pt_val (pe_prm GV hr (by decide) (by rfl) (pa_cons (pv 1) pa_nil)))) pss_never pss_nil)
      (pss_one (ps_if (pt_not (pt_val (pe_prm GW hr (by decide) (by rfl) (pa_cons (pv 2) (pa_cons pe_int (pa_cons (pe_gint (by rfl) T.mHouse) pa_nil)))))) pss_never pss_nil))), ?_⟩
    refine ⟨_, rfl, x, rs, rfl, hR, hg, l6, fun H1 s1 => ⟨_, rfl, y, v, rfl, hv.tk s1.tk, gv, fun H2 s2 => ⟨_, rfl, iteF ⟨_, rfl, house, 0, 8, rfl, _, rfl, ?_⟩⟩⟩⟩
    rw [decide_eq_true h0, decide_eq_true h8]
    exact iteF (k H2 (Same.trans s1 s2))
def spPossible : Sp := fun vs H Q _ => ∃ (x y : V) (rs : List Res) (v : List Int) (house : Int), vs = [x, y, .int house] ∧ Asked H x y rs v house ∧ ∀ H' L xs, Same H H' → H L = none → H' L = some (.lst xs) → Paired (Ints H') xs (posL rs v house) → Q (.ref L) H'
theorem scPossible : FnScope ["results", "votes", "house"] ["results", "votes", "house"] (defScope s_possible) := ⟨rfl, rfl, rfl, by decide +kernel, rfl, by decide +kernel, by decide +kernel⟩
theorem ok_possible (F : Dfn K mg "possible" "possible" s_possible) (GC : Prm P w K mg base 6 "check_asked" spAsked) (GS : Prm P w K mg base 5 "possible_shares" spShares) : Prm P w K mg base 7 "possible" spPossible := by
  refine F.prm scPossible (fun _ _ _ _ _ _ us hl => match us, hl with | [_, _, _], _ => rfl) (fun vs H Q E h => ?_) (fun f cdv A outer s H vs Q E hr h => ?_)
  · obtain ⟨_, _, _, _, _, rfl, _⟩ := h
    rfl
  · obtain ⟨x, y, rs, v, house, rfl, ha, k⟩ := h
    refine ⟨_, pss_cons (ps_expr (pe_prm GC hr (by decide) (by rfl) (pa_cons (pv 0) (pa_cons (pv 1) (pa_cons (pv 2) pa_nil))))) (pss_one (ps_ret (pe_prm GS hr (by decide) (by rfl) (pa_cons (pv 0) (pa_cons (pv 1) (pa_cons (pv 2) pa_nil)))))), ?_⟩
    exact ⟨_, rfl, _, rfl, _, rfl, x, y, rs, v, house, rfl, ha, fun H1 s1 => ⟨_, rfl, _, rfl, _, rfl, x, y, rs, v, house, rfl, ha.tk s1.tk, fun H2 L xs s2 hL hx px => k H2 L xs (Same.trans s1 s2) (Same.free s1 hL) hx px⟩⟩
def spCertain : Sp := fun vs H Q _ => ∃ (x y : V) (rs : List Res) (v : List Int) (house : Int), vs = [x, y, .int house] ∧ Asked H x y rs v house ∧ ∀ H' r, Same H H' → ((∃ s, posL rs v house = [s] ∧ Ints H' r s) ∨ r = .non) → ((posL rs v house).length = 1 → r ≠ .non) → Q r H'
abbrev nCertain : List Str := ["results", "votes", "house", "found"]
theorem scCertain : FnScope nCertain ["results", "votes", "house"] (defScope s_certain) := ⟨rfl, rfl, rfl, by decide +kernel, rfl, by decide +kernel, by decide +kernel⟩
theorem ok_certain (T : Txt mg) (F : Dfn K mg "certain" "certain" s_certain) (GC : Prm P w K mg base 6 "check_asked" spAsked) (GS : Prm P w K mg base 5 "possible_shares" spShares) : Prm P w K mg base 7 "certain" spCertain := by
  refine F.prm scCertain (fun _ _ _ _ _ _ us hl => match us, hl with | [_, _, _], _ => rfl) (fun vs H Q E h => ?_) (fun f cdv A outer s H vs Q E hr h => ?_)
  · obtain ⟨_, _, _, _, _, rfl, _⟩ := h
    rfl
  · obtain ⟨x, y, rs, v, house, rfl, ha, k⟩ := h
    have nd := scCertain.nd
    refine ⟨_, pss_cons (ps_expr (pe_prm GC hr (by decide) (by rfl) (pa_cons (pv 0) (pa_cons (pv 1) (pa_cons (pv 2) pa_nil)))))
      (pss_cons (ps_set (i := 3) nd rfl (.inl rfl) (pe_prm GS hr (by decide) (by rfl) (pa_cons (pv 0) (pa_cons (pv 1) (pa_cons (pv 2) pa_nil)))))
      (pss_one (ps_ret (pe_ifExp (pt_cmpR op_eq (pe_callB call_len_seq (by rfl) T.len PySem.boot_len (pa_cons (pv 3) pa_nil)) pe_int (nomark _)) (pe_ix ix_list (pv 3) pe_int (fun _ _ => rfl)) pe_non)))), ?_⟩
    refine ⟨_, rfl, _, rfl, _, rfl, x, y, rs, v, house, rfl, ha, fun H1 s1 => ⟨_, rfl, _, rfl, _, rfl, x, y, rs, v, house, rfl, ha.tk s1.tk, fun H2 L xs s2 hL hx px => ?_⟩⟩
    have s12 := Same.trans s1 s2
    have lx := Paired.length px
    refine ⟨_, rfl, L, xs, rfl, .inl (SqL.of hx), rfl, _, rfl, ite2 (fun e => ?_) (fun e => ?_)⟩
    · have e : (xs.length : Int) = 1 := V.int.inj (of_decide_eq_true e)
      obtain ⟨z, rfl⟩ : ∃ z, xs = [z] := by
        cases xs with
        | nil => simp at e
        | cons a t =>
          cases t with
          | nil => exact ⟨a, rfl⟩
          | cons b t =>
            simp at e
            omega
      obtain ⟨s, hs⟩ : ∃ s, posL rs v house = [s] := by
        cases hp : posL rs v house with
        | nil =>
          rw [hp] at lx
          cases lx
        | cons a t =>
          cases t with
          | nil => exact ⟨a, rfl⟩
          | cons b t =>
            rw [hp] at lx
            simp at lx
      rw [hs] at px
      cases px with
      | cons p1 p2 =>
        refine ⟨_, rfl, L, _, 0, z, rfl, rfl, SqL.of hx, atI_nat (j := 0) rfl, k H2 z s12 (.inl ⟨s, hs, p1⟩) fun _ q => ?_⟩
        obtain ⟨a, e, _⟩ := p1
        rw [e] at q
        cases q
    · refine k H2 .non s12 (.inr rfl) fun l => absurd ?_ e
      rw [lx, l]
      exact decide_eq_true rfl
end
end Ds
set_option maxHeartbeats 4000000
namespace Ds
open PySem PySem.Spec PyProof.Rows L2
/-! ### all but the stream stays -/
/-- the stream at s: the script's ints (at l), a cell, a place -/
def StrAt (H : Hp) (s l : Addr) (ns : List Int) : Prop := ∃ cell k : Int, H s = some (.lst [.ref l, .int cell, .int k]) ∧ H l = some (.lst (ns.map V.int)) ∧ l ≠ s ∧ 0 ≤ k
theorem StrAt.same {H H' : Hp} {s l : Addr} {ns : List Int} (h : StrAt H s l ns) (e : Same H H') : StrAt H' s l ns := let ⟨c, k, h1, h2, n, h3⟩ := h; ⟨c, k, e _ _ h1, e _ _ h2, n, h3⟩
theorem StrAt.ne {H : Hp} {s l p : Addr} {ns : List Int} (h : StrAt H s l ns) (e : H p = none) : p ≠ s ∧ p ≠ l := by
  obtain ⟨c, k, h1, h2, _⟩ := h
  refine ⟨fun z => ?_, fun z => ?_⟩
  · rw [z, h1] at e
    cases e
  · rw [z, h2] at e
    cases e
/-- from H to H': the stream may have moved on, all else that H knows is as it was -/
structure Stm (s l : Addr) (ns : List Int) (H H' : Hp) : Prop where
  sx : ∀ b o, b ≠ s → H b = some o → H' b = some o
  b : StrAt H s l ns
  a : StrAt H' s l ns
section
variable {s l : Addr} {ns : List Int} {H H1 H2 : Hp}
theorem Stm.refl (h : StrAt H s l ns) : Stm s l ns H H := ⟨fun _ _ _ e => e, h, h⟩
theorem Stm.trans (x : Stm s l ns H H1) (y : Stm s l ns H1 H2) : Stm s l ns H H2 := ⟨fun b o n e => y.sx b o n (x.sx b o n e), x.b, y.a⟩
theorem Stm.same (x : Stm s l ns H H1) (y : Same H1 H2) : Stm s l ns H H2 := ⟨fun b o n e => y b o (x.sx b o n e), x.b, x.a.same y⟩
theorem Stm.of (h : StrAt H s l ns) (y : Same H H1) : Stm s l ns H H1 := (Stm.refl h).same y
theorem Stm.put {p : Addr} {o : HO} (x : Stm s l ns H H1) (n : H p = none) : Stm s l ns H (upd H1 p o) := by
  obtain ⟨n1, n2⟩ := x.b.ne n
  obtain ⟨c, k, h1, h2, n3, h3⟩ := x.a
  refine ⟨fun b u ne e => ?_, x.b, c, k, by rw [upd_ne (Ne.symm n1)]; exact h1, by rw [upd_ne (Ne.symm n2)]; exact h2, n3, h3⟩
  rw [upd_ne (ne_of_none e n)]
  exact x.sx b u ne e
theorem Stm.free {p : Addr} (x : Stm s l ns H H1) (e : H1 p = none) : H p = none := by
  have n := (x.a.ne e).1
  cases q : H p with
  | none => rfl
  | some o =>
    rw [x.sx p o n q] at e
    cases e
theorem Stm.tk (x : Stm s l ns H H1) : TK H H1 := fun a xs e => x.sx a _ (fun z => by
  obtain ⟨c, k, h1, _⟩ := x.b
  rw [z, h1] at e
  cases e) e
/-- an object of our own, unknown to the base, through a call -/
theorem Stm.own {p : Addr} {o : HO} (x : Stm s l ns H H1) (n : H p = none) (y : Stm s l ns H1 H2) (e : H1 p = some o) : H2 p = some o := y.sx p o (x.b.ne n).1 e
end
section
variable {P : Program} {w : World} {K : PySem.W.Frag} {mg : Str → Option Value} {base : Heap}
/-! ### _law_stream, _law_next -/
def spStream (K : PySem.W.Frag) : Sp := fun vs H Q _ => ∃ (a : Addr) (ns : List Int), vs = [.ref a] ∧ SqL K H a (ns.map V.int) ∧ ∀ H' s l, Same H H' → H s = none → StrAt H' s l ns → Q (.ref s) H'
theorem scStream : FnScope ["_law_script"] ["_law_script"] (defScope s__law_stream) := ⟨rfl, rfl, rfl, by decide +kernel, rfl, by decide +kernel, by decide +kernel⟩
theorem ok_stream (T : Txt mg) (F : Dfn K mg "_law_stream" "_law_stream" s__law_stream) : Prm P w K mg base 1 "_law_stream" (spStream K) := by
  refine F.prm scStream (fun _ _ _ _ _ _ us hl => match us, hl with | [_], _ => rfl) (fun vs H Q E h => ?_) (fun f cdv A outer s H vs Q E hr h => ?_)
  · obtain ⟨_, _, rfl, _⟩ := h
    rfl
  · obtain ⟨a, ns, rfl, hS, k⟩ := h
    refine ⟨_, pss_one (ps_ret (pe_lst (pa_cons (pe_callTy call_list_of (by rfl) T.list (by decide +kernel) (pa_cons (pv 0) pa_nil)) (pa_cons pe_int (pa_cons pe_int pa_nil))))), ?_⟩
    refine ⟨_, rfl, a, _, rfl, .inl hS, fun l hl => ⟨by show 3 ≤ sizeLine; decide, fun p hp => ?_⟩⟩
    have s1 := same_new (o := HO.lst (ns.map V.int)) hl
    have n : l ≠ p := fun z => by rw [← z, upd_same] at hp; cases hp
    refine k _ p l (Same.trans s1 (same_new hp)) (Same.free s1 hp) ⟨0, 0, upd_same, ?_, n, Int.le_refl 0⟩
    rw [upd_ne n]
    exact upd_same
def spNext : Sp := fun vs H Q _ => ∃ (s l : Addr) (ns : List Int) (m : Int), vs = [.ref s, .int m] ∧ 0 < m ∧ m < 1073741824 ∧ StrAt H s l ns ∧ ∀ H' d, Stm s l ns H H' → 0 ≤ d → d < m → Q (.int d) H'
abbrev nNext : List Str := ["_law_stream_here", "_law_many", "_law_k", "_law_cell", "_law_digit"]
theorem scNext : FnScope nNext ["_law_stream_here", "_law_many"] (defScope s__law_next) := ⟨rfl, rfl, rfl, by decide +kernel, rfl, by decide +kernel, by decide +kernel⟩
theorem ok_next (T : Txt mg) (F : Dfn K mg "_law_next" "_law_next" s__law_next) : Prm P w K mg base 1 "_law_next" spNext := by
  refine F.prm scNext (fun _ _ _ _ _ _ us hl => match us, hl with | [_, _], _ => rfl) (fun vs H Q E h => ?_) (fun f cdv A outer s H vs Q E hr h => ?_)
  · obtain ⟨_, _, _, _, rfl, _⟩ := h
    rfl
  · obtain ⟨s, l, ns, m, rfl, m0, m1, hst, k⟩ := h
    have nd := scNext.nd
    refine ⟨_, Evl.pss_cut (ps_if (pt_cmpR op_eq (pe_ix ix_list (pv 0) pe_int (fun _ _ => rfl)) pe_int (nomark _))
        (pss_cons (ps_set (i := 2) nd rfl (.inl rfl) (pe_ix ix_list (pv 0) pe_int (fun _ _ => rfl)))
        (pss_cons (ps_set (i := 3) nd rfl (.inl rfl) (pe_op op_add pe_int (pv 2)))
        (pss_cons (ps_if (pt_cmpR op_lt (pv 2) (pe_callB call_len_seq (by rfl) T.len PySem.boot_len (pa_cons (pe_ix ix_list (pv 0) pe_int (fun _ _ => rfl)) pa_nil)) (nomark _))
          (pss_one (ps_set (i := 3) nd rfl (.inl rfl) (pe_callB call_abs (by rfl) T.abs (by decide +kernel) (pa_cons (pe_ix ix_list (pe_ix ix_list (pv 0) pe_int (fun _ _ => rfl)) (pv 2) (fun _ _ => rfl)) pa_nil)))) pss_nil)
        (pss_cons (ps_if (pt_cmpR op_lt (pv 3) (pe_op op_pow pe_int pe_int) (nomark _))
          (pss_cons (ps_set (i := 3) nd rfl (.inl rfl) (pe_op op_mod (pe_callTy call_int1 (by rfl) T.int (by decide +kernel) (pa_cons (pe_op op_add (pe_op op_add (pe_op op_mul (pv 3) pe_int) (pe_op op_mul (pv 2) pe_int)) pe_int) pa_nil)) pe_int))
          (pss_one (ps_set (i := 3) nd rfl (.inl rfl) (pe_op op_add (pe_op op_mul (pe_op op_mod (pe_callTy call_int1 (by rfl) T.int (by decide +kernel) (pa_cons (pe_op op_add (pe_op op_mul (pv 3) pe_int) pe_int) pa_nil)) pe_int) pe_int) (pv 3))))) pss_nil)
        (pss_cons (ps_asg (pv 3) (pg_sub (pv 0) pe_int set_list))
        (pss_one (ps_asg (pe_op op_add (pv 2) pe_int) (pg_sub (pv 0) pe_int set_list)))))))) pss_nil)
      (pss_cons (ps_set (i := 4) nd rfl (.inl rfl) (pe_op op_mod (pe_callTy call_int1 (by rfl) T.int (by decide +kernel) (pa_cons (pe_ix ix_list (pv 0) pe_int (fun _ _ => rfl)) pa_nil)) (pv 1)))
      (pss_cons (ps_asg (pe_op op_fdiv (pe_ix ix_list (pv 0) pe_int (fun _ _ => rfl)) (pv 1)) (pg_sub (pv 0) pe_int set_list))
      (pss_one (ps_ret (pv 4))))), ?_⟩
    obtain ⟨cell, kk, h1, h2, nl, k0⟩ := id hst
    -- a store into the stream
    have put : ∀ (c' k' : Int), 0 ≤ k' → Stm s l ns H (upd H s (.lst [.ref l, .int c', .int k'])) := fun c' k' h0 =>
      ⟨fun b o ne e => by rw [upd_ne ne]; exact e, hst, c', k', upd_same, by rw [upd_ne nl]; exact h2, nl, h0⟩
    refine ⟨fun σ' H' => ∃ s2 s3 s4, σ' = [some (.ref s), some (.int m), s2, s3, s4] ∧ ∃ c' k', 0 ≤ k' ∧ H' = upd H s (.lst [.ref l, .int c', .int k']), ?_, fun σ' H' ⟨s2, s3, s4, eσ, c', k', k0', eH⟩ => ?_⟩
    · refine ⟨_, rfl, s, _, 1, .int cell, rfl, rfl, SqL.of h1, atI_nat (j := 1) rfl, rfl, _, rfl, ite2 (fun _ => ?_) (fun _ => ⟨none, none, none, rfl, cell, kk, k0, ?_⟩)⟩
      · refine ⟨_, rfl, s, _, 2, .int kk, rfl, rfl, SqL.of h1, atI_nat (j := 2) rfl, ?_⟩
        refine ⟨_, rfl, _, _, rfl, rfl, ?_⟩
        -- from the cell on
        have fin : ∀ c : Int, (tSeq (tAsg (tVar 3) (gSub (tVar 0) (tC (.int 1)) rSetL)) (tAsg (tOp (rI0 fun i j => .int (i + j)) (tVar 2) (tC (.int 1))) (gSub (tVar 0) (tC (.int 2)) rSetL)))
            { nx := fun σ' H' => ∃ s2 s3 s4, σ' = [some (.ref s), some (.int m), s2, s3, s4] ∧ ∃ c' k', 0 ≤ k' ∧ H' = upd H s (.lst [.ref l, .int c', .int k']), rt := fun _ _ => False } [some (.ref s), some (.int m), some (.int kk), some (.int c), none] H := fun c => by
          refine ⟨_, rfl, _, rfl, s, _, 1, 1, rfl, rfl, h1, rfl, ?_⟩
          refine ⟨_, rfl, _, _, rfl, rfl, _, rfl, s, _, 2, 2, rfl, rfl, upd_same, rfl, ?_⟩
          refine ⟨_, _, _, rfl, c, kk + 1, by omega, ?_⟩
          rw [upd_upd]
          rfl
        have mid : ∀ c : Int, (tSeq (tIfS (tTest (tOp (rI0 fun i j => .bl (decide (i < j))) (tVar 3) (tOp (rI CPow fun i j => .int (i ^ j.toNat)) (tC (.int 10)) (tC (.int 18)))))
              (tSeq (tAsg (tOp (rI (fun _ j => 0 < j) fun i j => .int (i % j)) (tCB (fun xs H Q => (∃ i, xs = [.int i] ∧ Q (.int i) H) ∨ ∃ k, xs = [.bl k] ∧ Q (.int (if k then 1 else 0)) H) (tCons (tOp (rI0 fun i j => .int (i + j)) (tOp (rI0 fun i j => .int (i + j)) (tOp (rI CMul fun i j => .int (i * j)) (tVar 3) (tC (.int 48271))) (tOp (rI CMul fun i j => .int (i * j)) (tVar 2) (tC (.int 69621)))) (tC (.int 11))) tNil)) (tC (.int 2147483647))) (gName 3))
                (tAsg (tOp (rI0 fun i j => .int (i + j)) (tOp (rI CMul fun i j => .int (i * j)) (tOp (rI (fun _ j => 0 < j) fun i j => .int (i % j)) (tCB (fun xs H Q => (∃ i, xs = [.int i] ∧ Q (.int i) H) ∨ ∃ k, xs = [.bl k] ∧ Q (.int (if k then 1 else 0)) H) (tCons (tOp (rI0 fun i j => .int (i + j)) (tOp (rI CMul fun i j => .int (i * j)) (tVar 3) (tC (.int 16807))) (tC (.int 13))) tNil)) (tC (.int 2147483647))) (tC (.int 65537))) (tVar 3)) (gName 3))) tNext)
            (tSeq (tAsg (tVar 3) (gSub (tVar 0) (tC (.int 1)) rSetL)) (tAsg (tOp (rI0 fun i j => .int (i + j)) (tVar 2) (tC (.int 1))) (gSub (tVar 0) (tC (.int 2)) rSetL))))
            { nx := fun σ' H' => ∃ s2 s3 s4, σ' = [some (.ref s), some (.int m), s2, s3, s4] ∧ ∃ c' k', 0 ≤ k' ∧ H' = upd H s (.lst [.ref l, .int c', .int k']), rt := fun _ _ => False } [some (.ref s), some (.int m), some (.int kk), some (.int c), none] H := fun c => by
          refine ⟨_, rfl, _, _, rfl, rfl, ⟨by decide, by decide, by decide⟩, _, _, rfl, rfl, _, rfl, ite2 (fun _ => ?_) (fun _ => fin c)⟩
          refine ⟨_, rfl, _, _, rfl, rfl, .inr ⟨by decide, by decide⟩, _, rfl, _, _, rfl, rfl, .inr ⟨by decide, by decide⟩, _, _, rfl, rfl, _, _, rfl, rfl, .inl ⟨_, rfl, _, _, rfl, rfl, (by show (0 : Int) < 2147483647; decide), ?_⟩⟩
          refine ⟨_, rfl, _, _, rfl, rfl, .inr ⟨by decide, by decide⟩, _, _, rfl, rfl, .inl ⟨_, rfl, _, _, rfl, rfl, (by show (0 : Int) < 2147483647; decide), _, _, rfl, rfl, .inr ⟨by decide, by decide⟩, _, rfl, _, _, rfl, rfl, fin _⟩⟩
        refine ⟨_, rfl, _, rfl, s, _, 0, .ref l, rfl, rfl, SqL.of h1, atI_nat (j := 0) rfl, l, _, rfl, .inl (SqL.of h2), _, _, rfl, rfl, _, rfl, ite2 (fun lt => ?_) (fun _ => mid _)⟩
        have lt : kk < ((ns.map V.int).length : Int) := of_decide_eq_true lt
        rw [List.length_map] at lt
        exact ⟨_, rfl, s, _, 0, .ref l, rfl, rfl, SqL.of h1, atI_nat (j := 0) rfl, _, rfl, l, _, _, _, rfl, rfl, SqL.of h2, at_int (i := kk.toNat) (by omega) (by omega), _, rfl, mid _⟩
      · funext b
        by_cases e : b = s
        · rw [e, upd_same]
          exact h1
        · rw [upd_ne e]
    · subst eσ eH
      have hs := upd_same (H := H) (a := s) (o := HO.lst [.ref l, .int c', .int k'])
      refine ⟨_, rfl, s, _, 1, .int c', rfl, rfl, SqL.of hs, atI_nat (j := 1) rfl, .inl ⟨_, rfl, _, rfl, _, _, rfl, rfl, m0, ?_⟩⟩
      refine ⟨_, rfl, s, _, 1, .int c', rfl, rfl, SqL.of hs, atI_nat (j := 1) rfl, _, rfl, _, _, rfl, rfl, ⟨m0, m1⟩, _, rfl, s, _, 1, 1, rfl, rfl, hs, rfl, ?_⟩
      rw [upd_upd]
      exact ⟨_, rfl, k _ _ (put (c' / m) k' k0') (Int.emod_nonneg _ (by omega)) (Int.emod_lt_of_pos _ m0)⟩
end
end Ds
set_option maxHeartbeats 4000000
namespace Ds
open PySem PySem.Spec PyProof.Rows L2
section
variable {P : Program} {w : World} {K : PySem.W.Frag} {mg : Str → Option Value} {base : Heap}
/-! ### _law_divisor -/
def spDiv : Sp := fun vs H Q _ => ∃ (x : V) (D : List Int) (k : Int), vs = [x, .int k] ∧ Ints H x D ∧ GoodD D ∧ 0 ≤ k ∧ Q (.int (dV D k)) H
abbrev nDiv : List Str := ["_law_divisors_here", "_law_index"]
theorem scDiv : FnScope nDiv ["_law_divisors_here", "_law_index"] (defScope s__law_divisor) := ⟨rfl, rfl, rfl, by decide +kernel, rfl, by decide +kernel, by decide +kernel⟩
theorem ok_div (T : Txt mg) (F : Dfn K mg "_law_divisor" "_law_divisor" s__law_divisor) : Prm P w K mg base 1 "_law_divisor" spDiv := by
  refine F.prm scDiv (fun _ _ _ _ _ _ us hl => match us, hl with | [_, _], _ => rfl) (fun vs H Q E h => ?_) (fun f cdv A outer s H vs Q E hr h => ?_)
  · obtain ⟨_, _, _, rfl, _⟩ := h
    rfl
  · obtain ⟨x, D, z, rfl, ⟨a, rfl, ha⟩, g, z0, k⟩ := h
    refine ⟨_, pss_cons (ps_if (pt_cmpR op_lt (pv 1) (pe_callB call_len_seq (by rfl) T.len PySem.boot_len (pa_cons (pv 0) pa_nil)) (nomark _)) (pss_one (ps_ret (pe_ix ix_tup (pv 0) (pv 1) (fun _ _ => rfl)))) pss_nil)
      (pss_one (ps_ret (pe_op op_add (pe_op op_sub (pe_op op_add (pe_ix ix_tup (pv 0) (pe_un un_neg pe_int) (fun _ _ => rfl)) (pv 1)) (pe_callB call_len_seq (by rfl) T.len PySem.boot_len (pa_cons (pv 0) pa_nil))) pe_int))), ?_⟩
    have lm : (D.map V.int).length = D.length := List.length_map ..
    refine ⟨_, rfl, _, rfl, a, _, rfl, .inr (SqT.of ha), _, _, rfl, rfl, _, rfl, ?_⟩
    rw [lm]
    refine ite2 (fun lt => ?_) (fun lt => ?_)
    · have lt : z < (D.length : Int) := of_decide_eq_true lt
      refine ⟨_, rfl, _, rfl, a, _, _, _, rfl, rfl, SqT.of ha, at_int (i := z.toNat) (by omega) (by omega), ?_⟩
      unfold dV at k
      rw [if_pos lt] at k
      exact k
    · have lt : ¬ z < (D.length : Int) := fun q => lt (decide_eq_true q)
      refine ⟨_, rfl, 1, rfl, a, _, -1, _, rfl, rfl, SqT.of ha, at_last (Nat.le_trans (by decide) g.len1), _, rfl, _, _, rfl, rfl, _, rfl, a, _, rfl, .inr (SqT.of ha), _, _, rfl, rfl, _, _, rfl, rfl, ?_⟩
      unfold dV at k
      rw [if_neg lt] at k
      rw [lm]
      exact k
/-! ### _law_divisors -/
def spDivs : Sp := fun vs H Q _ => ∃ (s l : Addr) (ns : List Int), vs = [.ref s] ∧ StrAt H s l ns ∧ ∀ H' r D, Stm s l ns H H' → Ints H' r D → GoodD D → Q r H'
abbrev nDivs : List Str := ["_law_stream_here", "_law_found", "_law_here", "_law_k"]
theorem scDivs : FnScope nDivs ["_law_stream_here"] (defScope s__law_divisors) := ⟨rfl, rfl, rfl, by decide +kernel, rfl, by decide +kernel, by decide +kernel⟩
def stepOf (d : Int) : Int := [0, 1, 1, 2, 3].getD d.toNat 0
theorem stepOf_le {d : Int} (h0 : 0 ≤ d) (h5 : d < 5) : 0 ≤ stepOf d ∧ stepOf d ≤ 3 := by
  have : d = 0 ∨ d = 1 ∨ d = 2 ∨ d = 3 ∨ d = 4 := by omega
  rcases this with e | e | e | e | e <;> subst e <;> decide
theorem getD_snoc {xs : List Int} {x : Int} {j : Nat} : (xs ++ [x]).getD j 0 = if j < xs.length then xs.getD j 0 else if j = xs.length then x else 0 := by
  by_cases h : j < xs.length
  · rw [if_pos h]
    simp [List.getD, List.getElem?_append_left h]
  · rw [if_neg h]
    by_cases e : j = xs.length
    · rw [if_pos e, e]
      simp [List.getD]
    · rw [if_neg e, getD_out]
      rw [List.length_append]
      show xs.length + 1 ≤ j
      omega
/-- the divisors so far: ascending up to what is here -/
structure DivsTo (here : Int) (i : Nat) (xs : List Int) : Prop where
  len : xs.length = i
  h0 : 0 ≤ here
  h3 : here ≤ 3 * i
  one : ∀ x ∈ xs, 1 ≤ x ∧ x ≤ max 1 here
  asc : ∀ j, j + 1 < xs.length → xs.getD j 0 ≤ xs.getD (j + 1) 0
theorem DivsTo.next {here d : Int} {i : Nat} {xs : List Int} (h : DivsTo here i xs) (d0 : 0 ≤ d) (d3 : d ≤ 3) : DivsTo (here + d) (i + 1) (xs ++ [max 1 (here + d)]) := by
  have l := h.len
  have a := h.h0
  have b := h.h3
  refine ⟨by rw [List.length_append, l]; rfl, by omega, by omega, fun x hx => ?_, fun j hj => ?_⟩
  · rcases List.mem_append.mp hx with hx | hx
    · have := h.one x hx
      omega
    · rw [List.mem_singleton.mp hx]
      omega
  · rw [List.length_append] at hj
    have hj : j < xs.length := by simpa using hj
    rw [getD_snoc, getD_snoc, if_pos hj]
    by_cases c : j + 1 < xs.length
    · rw [if_pos c]
      exact h.asc j c
    · rw [if_neg c, if_pos (by omega)]
      have := h.one _ (getD_mem hj)
      omega
theorem DivsTo.good {here : Int} {n : Nat} {xs : List Int} (h : DivsTo here n xs) (n2 : 2 ≤ n) (n5 : n ≤ 5) : GoodD xs := by
  have l := h.len
  have b := h.h3
  refine ⟨by omega, by omega, fun x hx => ?_, h.asc⟩
  have := h.one x hx
  omega
theorem ok_divs (T : Txt mg) (F : Dfn K mg "_law_divisors" "_law_divisors" s__law_divisors) (GN : Prm P w K mg base 1 "_law_next" spNext) : Prm P w K mg base 2 "_law_divisors" spDivs := by
  refine F.prm scDivs (fun _ _ _ _ _ _ us hl => match us, hl with | [_], _ => rfl) (fun vs H Q E h => ?_) (fun f cdv A outer s H vs Q E hr h => ?_)
  · obtain ⟨_, _, _, rfl, _⟩ := h
    rfl
  · obtain ⟨s, l, ns, rfl, hst, k⟩ := h
    have nd := scDivs.nd
    refine ⟨_, pss_cons (ps_set (i := 1) nd rfl (.inl rfl) (pe_lst pa_nil))
      (pss_cons (ps_set (i := 2) nd rfl (.inl rfl) pe_int)
      (pss_cons (ps_for PassesOwn.never rfl (pi_range1 (by rfl) T.range (pa_cons (pe_op op_add pe_int (pe_prm GN hr (by decide) (by rfl) (pa_cons (pv 0) (pa_cons pe_int pa_nil)))) pa_nil)) (pg_name (i := 3) nd rfl (.inl rfl))
        (pss_cons (ps_set (i := 2) nd rfl (.inl rfl) (pe_op op_add (pv 2) (pe_ix ix_list (pe_lst (pa_cons pe_int (pa_cons pe_int (pa_cons pe_int (pa_cons pe_int (pa_cons pe_int pa_nil)))))) (pe_prm GN hr (by decide) (by rfl) (pa_cons (pv 0) (pa_cons pe_int pa_nil))) (fun _ _ => rfl))))
        (pss_one (ps_expr (pe_bm PySem.F.plainAttrs_list PySem.F.slot_list_append PySem.F.type_list_append mt_append (pv 1) (pa_cons (pe_callB (call_max2 rfl) (by rfl) T.max (by decide +kernel) (pa_cons pe_int (pa_cons (pv 2) pa_nil))) pa_nil))))))
      (pss_one (ps_ret (pe_callTy call_tuple_of (by rfl) T.tuple (by decide +kernel) (pa_cons (pv 1) pa_nil)))))), ?_⟩
    refine ⟨Nat.zero_le _, fun G hG => ?_⟩
    have m0 := Stm.of hst (same_new (o := HO.lst []) hG)
    generalize eH1 : upd H G (HO.lst []) = H1 at m0
    have hG1 : H1 G = some (.lst []) := by rw [← eH1]; exact upd_same
    refine ⟨_, rfl, s, l, ns, 4, rfl, by decide, by decide, m0.a, fun H2 d m2 d0 d4 => ⟨_, _, rfl, rfl, _, rfl, by omega, by omega, ?_⟩⟩
    have n2 : 2 ≤ (2 + d).toNat ∧ (2 + d).toNat ≤ 5 := by omega
    generalize en : (2 + d).toNat = n at n2
    have mm := m0.trans m2
    have hG2 := m0.own hG m2 hG1
    refine for_range (lo := 0) (n := n) (fun i σ H' => Stm s l ns H H' ∧ ∃ here s3 xs, σ = [some (.ref s), some (.ref G), some (.int here), s3] ∧ H' G = some (.lst (xs.map V.int)) ∧ DivsTo here i xs)
      ⟨mm, 0, none, [], rfl, hG2, ⟨rfl, Int.le_refl 0, Int.le_refl 0, fun x hx => (nomatch hx), fun j hj => absurd hj (Nat.not_lt_zero _)⟩⟩ (fun i σ H' hi ⟨mH, here, s3, xs, eσ, hxs, dt⟩ => ?_) (fun σ H' ⟨mH, here, s3, xs, eσ, hxs, dt⟩ => ?_)
    · subst eσ
      refine ⟨_, rfl, by show 5 ≤ sizeLine; decide, fun p hp => ?_⟩
      have sp := same_new (o := HO.lst [.int 0, .int 1, .int 1, .int 2, .int 3]) hp
      generalize eHp : upd H' p (HO.lst [.int 0, .int 1, .int 1, .int 2, .int 3]) = H3 at sp
      have hpp : H3 p = some (.lst ([0, 1, 1, 2, 3].map V.int)) := by rw [← eHp]; exact upd_same
      have mp := mH.same sp
      have np := mH.free hp
      refine ⟨_, rfl, s, l, ns, 5, rfl, by decide, by decide, mp.a, fun H4 e m4 e0 e5 => ?_⟩
      have hp4 := mp.own np m4 hpp
      have hG4 := mp.own hG m4 (sp _ _ hxs)
      have st := stepOf_le e0 e5
      refine ⟨p, _, _, .int (stepOf e), rfl, rfl, SqL.of hp4, at_int (i := e.toNat) (by omega) (by show e.toNat < 5; omega), _, _, rfl, rfl, ?_⟩
      have em : (if here + stepOf e > 1 then here + stepOf e else 1) = max 1 (here + stepOf e) := by
        rw [Int.max_def]
        by_cases c : here + stepOf e > 1
        · rw [if_pos c, if_pos (by omega)]
        · rw [if_neg c]
          by_cases c2 : 1 ≤ here + stepOf e
          · rw [if_pos c2]
            omega
          · rw [if_neg c2]
      have lx := dt.len
      refine ⟨_, rfl, .inl ⟨rfl, _, SqL.of hG4⟩, _, rfl, _, _, rfl, ?_⟩
      refine ⟨G, _, _, rfl, rfl, hG4, by rw [List.length_map]; exact size4 (by omega), (mp.trans m4).put hG, _, _, _, rfl, ?_, dt.next st.1 st.2⟩
      rw [upd_same, List.map_append]
      show some (HO.lst (xs.map V.int ++ [V.int (if here + stepOf e > 1 then here + stepOf e else 1)])) = _
      rw [em]
      rfl
    · subst eσ
      exact ⟨_, rfl, G, _, rfl, .inl ⟨SqL.of hxs, fun q hq => k _ _ xs (mH.same (same_new hq)) ⟨q, rfl, upd_same⟩ (dt.good n2.1 n2.2)⟩⟩
/-! ### _law_votes -/
def spLVotes : Sp := fun vs H Q _ => ∃ (s l : Addr) (ns : List Int) (m : Int), vs = [.ref s, .int m] ∧ StrAt H s l ns ∧ 1 ≤ m ∧ m ≤ 5 ∧ ∀ H' r v, Stm s l ns H H' → Ints H' r v → 1 ≤ v.length → GoodV v → Q r H'
abbrev nLVotes : List Str := ["_law_stream_here", "_law_most", "_law_top_here", "_law_k"]
theorem scLVotes : FnScope nLVotes ["_law_stream_here", "_law_most"] (defScope s__law_votes) := ⟨rfl, rfl, rfl, by decide +kernel, rfl, by decide +kernel, by decide +kernel⟩
def topOf (d : Int) : Int := [4, 10, 30, 1000].getD d.toNat 0
theorem topOf_le {d : Int} (h0 : 0 ≤ d) (h4 : d < 4) : 0 < topOf d ∧ topOf d ≤ 1000 := by
  have : d = 0 ∨ d = 1 ∨ d = 2 ∨ d = 3 := by omega
  rcases this with e | e | e | e <;> subst e <;> decide
theorem ok_lvotes (T : Txt mg) (F : Dfn K mg "_law_votes" "_law_votes" s__law_votes) (GN : Prm P w K mg base 1 "_law_next" spNext) : Prm P w K mg base 2 "_law_votes" spLVotes := by
  refine F.prm scLVotes (fun _ _ _ _ _ _ us hl => match us, hl with | [_, _], _ => rfl) (fun vs H Q E h => ?_) (fun f cdv A outer s H vs Q E hr h => ?_)
  · obtain ⟨_, _, _, _, rfl, _⟩ := h
    rfl
  · obtain ⟨s, l, ns, m, rfl, hst, m1, m5, k⟩ := h
    have nd := scLVotes.nd
    refine ⟨_, pss_cons (ps_set (i := 2) nd rfl (.inr rfl) (pe_ix ix_list (pe_lst (pa_cons pe_int (pa_cons pe_int (pa_cons pe_int (pa_cons pe_int pa_nil))))) (pe_prm GN hr (by decide) (by rfl) (pa_cons (pv 0) (pa_cons pe_int pa_nil))) (fun _ _ => rfl)))
      (pss_one (ps_ret (pe_callTy call_tuple_of (by rfl) T.tuple (by decide +kernel) (pa_cons (pe_lc (own := [("_law_k", 3)]) (g := gName 3) rfl nd (pi_range1 (by rfl) T.range (pa_cons (pe_op op_add pe_int (pe_prm GN hr (by decide) (by rfl) (pa_cons (pv 0) (pa_cons (pv 1) pa_nil)))) pa_nil))
        (blkOk_by (N := nLVotes) (sc := defScope s__law_votes) (by decide +kernel)) (fun _ _ _ _ _ => pg_name (i := 3) nd rfl (.inl rfl)) (fun _ _ _ _ _ => pts_nil)
        (fun _ _ _ _ _ => pe_op op_add pe_int (pe_prm GN hr (by decide) (by rfl) (pa_cons (pv 0) (pa_cons (pv 2) pa_nil))))) pa_nil)))), ?_⟩
    refine ⟨by show 4 ≤ sizeLine; decide, fun p hp => ?_⟩
    have m0 := Stm.of hst (same_new (o := HO.lst [.int 4, .int 10, .int 30, .int 1000]) hp)
    generalize eH1 : upd H p (HO.lst [.int 4, .int 10, .int 30, .int 1000]) = H1 at m0
    have hp1 : H1 p = some (.lst ([4, 10, 30, 1000].map V.int)) := by rw [← eH1]; exact upd_same
    refine ⟨_, rfl, s, l, ns, 4, rfl, by decide, by decide, m0.a, fun H2 d m2 d0 d4 => ?_⟩
    have tt := topOf_le d0 d4
    refine ⟨p, _, _, .int (topOf d), rfl, rfl, SqL.of (m0.own hp m2 hp1), at_int (i := d.toNat) (by omega) (by show d.toNat < 4; omega), ?_⟩
    refine ⟨_, rfl, _, rfl, s, l, ns, m, rfl, by omega, by omega, m2.a, fun H3 e m3 e0 em => ⟨_, _, rfl, rfl, _, rfl, by omega, by omega, fun D hD => ?_⟩⟩
    have mm := (m0.trans m2).trans m3
    have hD0 := mm.free hD
    have n1 : 1 ≤ (1 + e).toNat ∧ (1 + e).toNat ≤ 5 := by omega
    generalize en : (1 + e).toNat = n at n1
    refine lc_range (lo := 0) (n := n) (fun i H' => Stm s l ns H H' ∧ ∃ xs : List Int, H' D = some (.lst (xs.map V.int)) ∧ xs.length = i ∧ ∀ x ∈ xs, 1 ≤ x ∧ x ≤ 1000000)
      ⟨mm.same (same_new hD), [], upd_same, rfl, fun x hx => (nomatch hx)⟩ (fun i H' hi ⟨mH, xs, hxs, lx, one⟩ => ?_) (fun H' ⟨mH, xs, hxs, lx, one⟩ => ?_)
    · refine ⟨rfl, _, rfl, _, rfl, s, l, ns, topOf d, rfl, tt.1, by omega, mH.a, fun H4 z m4 z0 zt => ⟨_, _, rfl, rfl, ?_⟩⟩
      refine ⟨_, mH.own hD0 m4 hxs, by rw [List.length_map]; exact size4 (by omega), (mH.trans m4).put hD0, xs ++ [1 + z], ?_, by rw [List.length_append, lx]; rfl, fun x hx => ?_⟩
      · rw [upd_same, List.map_append]
        rfl
      · rcases List.mem_append.mp hx with hx | hx
        · exact one x hx
        · rw [List.mem_singleton.mp hx]
          omega
    · exact ⟨D, _, rfl, .inl ⟨SqL.of hxs, fun q hq => k _ _ xs (mH.same (same_new hq)) ⟨q, rfl, upd_same⟩ (by omega) ⟨by omega, one⟩⟩⟩
end
end Ds
set_option maxHeartbeats 4000000
namespace Ds
open PySem PySem.Spec PyProof.Rows L2
/-! ### the parties that none is ahead of -/
def aheadB (d : Int → Int) (v s : List Int) (i j : Nat) : Bool := decide (v.getD i 0 * d (s.getD j 0) < v.getD j 0 * d (s.getD i 0))
def aheadL (d : Int → Int) (v s : List Int) (i n : Nat) : List Nat := (List.range n).filter (aheadB d v s i)
def bestL (d : Int → Int) (v s : List Int) (n : Nat) : List Nat := (List.range n).filter fun i => (aheadL d v s i v.length).isEmpty
def intsN (l : List Nat) : List V := l.map fun i : Nat => V.int (i : Int)
theorem ahead_none {d : Int → Int} {v s : List Int} {i : Nat} (h : aheadL d v s i v.length = []) : Best d v s i := fun j hj => by
  have := List.filter_eq_nil_iff.mp h j (List.mem_range.mpr hj)
  unfold aheadB at this
  rw [decide_eq_true_eq] at this
  omega
theorem best_of {d : Int → Int} {v s : List Int} {i n : Nat} (h : i ∈ bestL d v s n) : i < n ∧ Best d v s i := by
  obtain ⟨a, b⟩ := List.mem_filter.mp h
  exact ⟨List.mem_range.mp a, ahead_none (List.isEmpty_iff.mp b)⟩
theorem bestL_ne {d : Int → Int} (hd : Asc d) {v s : List Int} (hv : ∀ x ∈ v, 0 < x) (hs : ∀ x ∈ s, 0 ≤ x) (h0 : 0 < v.length) : bestL d v s v.length ≠ [] := by
  obtain ⟨i, hi, b⟩ := exists_best hd hv hs v.length h0 (Nat.le_refl _)
  refine List.ne_nil_of_mem (List.mem_filter.mpr ⟨List.mem_range.mpr hi, List.isEmpty_iff.mpr ?_⟩)
  refine List.filter_eq_nil_iff.mpr fun j hj => ?_
  unfold aheadB
  rw [decide_eq_true_eq]
  have := b j (List.mem_range.mp hj)
  omega
theorem range_filter_snoc {p : Nat → Bool} {n : Nat} : (List.range (n + 1)).filter p = (List.range n).filter p ++ (if p n = true then [n] else []) := by
  rw [List.range_succ, List.filter_append, List.filter_cons, List.filter_nil]
theorem intsN_len {l : List Nat} : (intsN l).length = l.length := List.length_map ..
theorem dV_big {D : List Int} (g : GoodD D) {k : Int} (h0 : 0 ≤ k) (h8 : k ≤ 8) : 0 ≤ dV D k ∧ dV D k ≤ 2000 := by
  have l1 := g.len1
  unfold dV
  by_cases c : k < D.length
  · rw [if_pos c]
    have := g.one _ (getD_mem (l := D) (i := k.toNat) (by omega))
    omega
  · rw [if_neg c]
    have := g.one _ (getD_mem (l := D) (i := D.length - 1) (by omega))
    omega
section
variable {P : Program} {w : World} {K : PySem.W.Frag} {mg : Str → Option Value} {base : Heap}
/-! ### _law_seated -/
def spSeated : Sp := fun vs H Q _ => ∃ (s l : Addr) (ns D v : List Int) (x y : V) (h : Nat), vs = [.ref s, x, y, .int (h : Nat)] ∧ StrAt H s l ns ∧ Ints H x D ∧ GoodD D ∧ Ints H y v ∧ GoodV v ∧ 1 ≤ v.length ∧ h ≤ 8 ∧
  ∀ H' r ss, Stm s l ns H H' → Ints H' r ss → ss.length = v.length → (∀ z ∈ ss, 0 ≤ z) → ss.sum = h → Keeps (dV D) v ss → Q r H'
abbrev nSeated : List Str := ["_law_stream_here", "_law_divisors_here", "_law_votes_here", "_law_house", "_law_seats", "_law_turn", "_law_best", "_law_one", "_law_ahead", "_law_vote", "_law_other"]
theorem scSeated : FnScope nSeated ["_law_stream_here", "_law_divisors_here", "_law_votes_here", "_law_house"] (defScope s__law_seated) := ⟨rfl, rfl, rfl, by decide +kernel, rfl, by decide +kernel, by decide +kernel⟩
def ttAhead (K : PySem.W.Frag) : TT := tTest (tOp (rI0 fun i j => .bl (decide (i > j)))
  (tOp (rI CMul fun i j => .int (i * j)) (tOp (rIxT K) (tVar 2) (tVar 10)) (tCall spDiv [] E0 (tCons (tVar 1) (tCons (tOp (rIxL K) (tVar 4) (tVar 7)) tNil))))
  (tOp (rI CMul fun i j => .int (i * j)) (tOp (rIxT K) (tVar 2) (tVar 7)) (tCall spDiv [] E0 (tCons (tVar 1) (tCons (tOp (rIxL K) (tVar 4) (tVar 10)) tNil)))))
theorem ok_seated (T : Txt mg) (F : Dfn K mg "_law_seated" "_law_seated" s__law_seated) (GN : Prm P w K mg base 1 "_law_next" spNext) (GD : Prm P w K mg base 1 "_law_divisor" spDiv) : Prm P w K mg base 2 "_law_seated" spSeated := by
  refine F.prm scSeated (fun _ _ _ _ _ _ us hl => match us, hl with | [_, _, _, _], _ => rfl) (fun vs H Q E h => ?_) (fun f cdv A outer s H vs Q E hr h => ?_)
  · obtain ⟨_, _, _, _, _, _, _, _, rfl, _⟩ := h
    rfl
  · obtain ⟨s, l, ns, D, v, x, y, h, rfl, hst, hx, gd, ⟨b, rfl, hb⟩, gv, v1, h8, k⟩ := h
    have nd := scSeated.nd
    refine ⟨_, pss_cons (ps_set (i := 4) nd rfl (.inr rfl) (pe_lc (own := [("_law_vote", 9)]) (g := gName 9) rfl nd (pi_tup (pv 2)) (blkOk_by (N := nSeated) (sc := defScope s__law_seated) (by decide +kernel))
          (fun _ _ _ _ _ => pg_name (i := 9) nd rfl (.inl rfl)) (fun _ _ _ _ _ => pts_nil) (fun _ _ _ _ _ => pe_int)))
      (pss_cons (ps_for PassesOwn.never rfl (pi_range1 (by rfl) T.range (pa_cons (pv 3) pa_nil)) (pg_name (i := 5) nd rfl (.inl rfl))
        (pss_cons (ps_set (i := 6) nd rfl (.inl rfl) (pe_lst pa_nil))
        (pss_cons (ps_for PassesOwn.never rfl (pi_range1 (by rfl) T.range (pa_cons (pe_callB call_len_seq (by rfl) T.len PySem.boot_len (pa_cons (pv 2) pa_nil)) pa_nil)) (pg_name (i := 7) nd rfl (.inr rfl))
          (pss_cons (ps_setLc (i := 8) (own := [("_law_other", 10)]) (g := gName 10) (tt := ttAhead K) rfl nd rfl rfl (sw_true rfl rfl rfl (by decide +kernel)) (pi_range1 (by rfl) T.range (pa_cons (pe_callB call_len_seq (by rfl) T.len PySem.boot_len (pa_cons (pv 2) pa_nil)) pa_nil))
              (blkOk_by (N := nSeated) (sc := defScope s__law_seated) (by decide +kernel)) (fun _ _ _ _ _ => pg_name (i := 10) nd rfl (.inl rfl))
              (fun _ _ _ _ _ => pts_one (pt_cmpR op_gt (pe_op op_mul (pe_ix ix_tup (pv 2) (pv 10) (fun _ _ => rfl)) (pe_prm GD hr (by decide) (by rfl) (pa_cons (pv 1) (pa_cons (pe_ix ix_list (pv 4) (pv 7) (fun _ _ => rfl)) pa_nil))))
                (pe_op op_mul (pe_ix ix_tup (pv 2) (pv 7) (fun _ _ => rfl)) (pe_prm GD hr (by decide) (by rfl) (pa_cons (pv 1) (pa_cons (pe_ix ix_list (pv 4) (pv 10) (fun _ _ => rfl)) pa_nil)))) (nomark _)))
              (fun _ _ _ _ _ => pv 10))
          (pss_one (ps_if (pt_not (pt_truth (pv 8) (by intro _; rfl)))
            (pss_one (ps_expr (pe_bm PySem.F.plainAttrs_list PySem.F.slot_list_append PySem.F.type_list_append mt_append (pv 6) (pa_cons (pv 7) pa_nil)))) pss_nil))))
        (pss_cons (ps_set (i := 7) nd rfl (.inr rfl) (pe_ix ix_list (pv 6) (pe_prm GN hr (by decide) (by rfl) (pa_cons (pv 0) (pa_cons (pe_callB call_len_seq (by rfl) T.len PySem.boot_len (pa_cons (pv 6) pa_nil)) pa_nil))) (fun _ _ => rfl)))
        (pss_one (ps_asg (pe_op op_add (pe_ix ix_list (pv 4) (pv 7) (fun _ _ => rfl)) pe_int) (pg_sub (pv 4) (pv 7) set_list)))))))
      (pss_one (ps_ret (pe_callTy call_tuple_of (by rfl) T.tuple (by decide +kernel) (pa_cons (pv 4) pa_nil))))), ?_⟩
    have lm : (v.map V.int).length = v.length := List.length_map ..
    have l5 := gv.len
    have en : (((v.map V.int).length : Nat) : Int).toNat = v.length := lm
    have vp : ∀ x ∈ v, 0 < x := fun x hx => by
      have := gv.one x hx
      omega
    -- the seats, all 0
    refine ⟨_, rfl, b, rfl, ⟨_, SqT.of hb⟩, fun G hG => lc_tup (K := K) (a := b) (xs := v.map V.int) (fun i H' => Same H H' ∧ ∃ ss : List Int, H' G = some (.lst (ss.map V.int)) ∧ ss.length = i ∧ ∀ z ∈ ss, z = 0)
      ⟨same_new hG, [], upd_same, rfl, fun z hz => (nomatch hz)⟩ (fun i H' _ ⟨sm, _⟩ => SqT.of (sm _ _ hb)) (fun i z H' hi ⟨sm, ss, hss, lss, all⟩ => ?_) (fun H' ⟨sm, ss, hss, lss, all⟩ => ?_)⟩
    · have li := (List.getElem?_eq_some_iff.mp hi).1
      refine ⟨rfl, ss.map V.int, hss, by rw [List.length_map]; exact size4 (by omega), Same.put sm hG, ss ++ [0], ?_, by rw [List.length_append, lss]; rfl, fun z hz => ?_⟩
      · rw [upd_same, List.map_append]
        rfl
      · rcases List.mem_append.mp hz with hz | hz
        · exact all z hz
        · exact List.mem_singleton.mp hz
    · have hb' : ∀ {H2 : Hp}, Stm s l ns H H2 → H2 b = some (tupI v) := fun m => m.tk _ _ hb
      refine ⟨_, rfl, h, rfl, by omega, by omega, ?_⟩
      rw [show ((h : Nat) : Int).toNat = h from rfl]
      refine for_range (lo := 0) (n := h) (fun i σ H' => Stm s l ns H H' ∧ (∃ s5 s6 s7 s8, σ = [some (.ref s), some x, some (.ref b), some (.int (h : Nat)), some (.ref G), s5, s6, s7, s8, none, none]) ∧
          ∃ ss : List Int, H' G = some (.lst (ss.map V.int)) ∧ ss.length = v.length ∧ (∀ z ∈ ss, 0 ≤ z) ∧ ss.sum = (i : Int) ∧ Keeps (dV D) v ss)
        ⟨Stm.of hst sm, ⟨none, none, none, none, rfl⟩, ss, hss, by rw [lss, lm], fun z hz => by rw [all z hz]; exact Int.le_refl 0, ?_, keeps_zero all⟩ (fun i σ H1 hi ⟨m1, ⟨s5, s6, s7, s8, eσ⟩, ss, hss, lss, nn, sum, kp⟩ => ?_) (fun σ H1 ⟨m1, ⟨s5, s6, s7, s8, eσ⟩, ss, hss, lss, nn, sum, kp⟩ => ?_)
      · have : ∀ ss : List Int, (∀ z ∈ ss, z = 0) → ss.sum = 0 := fun ss => by
          induction ss with
          | nil => intro _; rfl
          | cons a t ih =>
            intro q
            rw [List.sum_cons, ih (fun z hz => q z (List.mem_cons_of_mem _ hz)), q a List.mem_cons_self]
            rfl
        exact this ss all
      · subst eσ
        have sl : ∀ j : Nat, 0 ≤ ss.getD j 0 ∧ ss.getD j 0 ≤ 8 := fun j => by
          by_cases c : j < ss.length
          · have a1 := nn _ (getD_mem c)
            have a2 := le_sum nn _ (getD_mem c)
            omega
          · rw [getD_out (by omega)]
            omega
        refine ⟨Nat.zero_le _, fun B hB => ?_⟩
        have sB := same_new (o := HO.lst []) hB
        have hB0 := m1.free hB
        generalize eHB : upd H1 B (HO.lst []) = H2 at sB
        have hBB : H2 B = some (.lst (intsN [])) := by rw [← eHB]; exact upd_same
        have nGB : G ≠ B := ne_of_none hss hB
        refine ⟨_, rfl, b, _, rfl, .inr (SqT.of (sB _ _ (hb' m1))), _, rfl, by rw [lm]; omega, by rw [lm]; omega, ?_⟩
        rw [en]
        refine for_range (lo := 0) (n := v.length) (fun j σ H' => Same H1 H' ∧ (∃ s7 s8, σ = [some (.ref s), some x, some (.ref b), some (.int (h : Nat)), some (.ref G), some (.int (0 + (i : Int))), some (.ref B), s7, s8, none, none]) ∧ H' B = some (.lst (intsN (bestL (dV D) v ss j))))
          ⟨sB, ⟨_, _, rfl⟩, hBB⟩ (fun j σ H3 hj ⟨s3, ⟨s7, s8, eσ⟩, hBj⟩ => ?_) (fun σ H3 ⟨s3, ⟨s7, s8, eσ⟩, hBj⟩ => ?_)
        · subst eσ
          rw [show (0 : Int) + (j : Int) = (j : Int) from Int.zero_add _]
          have m3 := m1.same s3
          refine ⟨_, rfl, b, _, rfl, .inr (SqT.of (hb' m3)), _, rfl, by rw [lm]; omega, by rw [lm]; omega, fun A hA => ?_⟩
          rw [en]
          have nBA : B ≠ A := ne_of_none hBj hA
          refine lc_range (lo := 0) (n := v.length) (fun q H' => Same H3 H' ∧ H' A = some (.lst (intsN (aheadL (dV D) v ss j q))))
            ⟨same_new hA, upd_same⟩ (fun q H4 hq ⟨s4, hAq⟩ => ?_) (fun H4 ⟨s4, hAq⟩ => ?_)
          · rw [show (0 : Int) + (q : Int) = (q : Int) from Int.zero_add _]
            have m4 := m3.same s4
            have hG4 := s4 _ _ (s3 _ _ hss)
            have hb4 := hb' m4
            have hx4 := hx.tk m4.tk
            have vq := gv.one _ (getD_mem hq)
            have vj := gv.one _ (getD_mem hj)
            have et : aheadL (dV D) v ss j (q + 1) = aheadL (dV D) v ss j q ++ (if aheadB (dV D) v ss j q = true then [q] else []) := range_filter_snoc
            have lq : (aheadL (dV D) v ss j q).length ≤ q := by
              have := List.length_filter_le (aheadB (dV D) v ss j) (List.range q)
              rw [List.length_range] at this
              exact this
            refine ⟨rfl, _, rfl, _, rfl, b, _, _, _, rfl, rfl, SqT.of hb4, at_int rfl hq, ?_⟩
            refine ⟨_, rfl, _, rfl, _, rfl, G, _, _, _, rfl, rfl, SqL.of hG4, at_int rfl (by omega), x, D, _, rfl, hx4, gd, (sl j).1, _, _, rfl, rfl, .inl ⟨by omega, by omega⟩, ?_⟩
            refine ⟨_, rfl, _, rfl, b, _, _, _, rfl, rfl, SqT.of hb4, at_int rfl hj, ?_⟩
            refine ⟨_, rfl, _, rfl, _, rfl, G, _, _, _, rfl, rfl, SqL.of hG4, at_int rfl (by omega), x, D, _, rfl, hx4, gd, (sl q).1, _, _, rfl, rfl, .inl ⟨by omega, by omega⟩, ?_⟩
            refine ⟨_, _, rfl, rfl, _, rfl, ite2 (fun e => ?_) (fun e => ?_)⟩
            · rw [show aheadB (dV D) v ss j q = true from e, if_pos rfl] at et
              refine ⟨_, rfl, _, hAq, by rw [intsN_len]; exact size4 (by omega), Same.put s4 hA, ?_⟩
              rw [upd_same, et]
              unfold intsN
              rw [List.map_append]
              rfl
            · rw [if_neg (show ¬ aheadB (dV D) v ss j q = true from e), List.append_nil] at et
              exact ⟨s4, by rw [et]; exact hAq⟩
          · have s14 := Same.trans s3 s4
            have hB4 := s4 _ _ hBj
            have et : bestL (dV D) v ss (j + 1) = bestL (dV D) v ss j ++ (if (aheadL (dV D) v ss j v.length).isEmpty = true then [j] else []) := range_filter_snoc
            have lq : (bestL (dV D) v ss j).length ≤ j := by
              have := List.length_filter_le (fun i => (aheadL (dV D) v ss i v.length).isEmpty) (List.range j)
              rw [List.length_range] at this
              exact this
            have ee : (intsN (aheadL (dV D) v ss j v.length)).isEmpty = (aheadL (dV D) v ss j v.length).isEmpty := by
              cases aheadL (dV D) v ss j v.length <;> rfl
            refine ⟨_, rfl, !(aheadL (dV D) v ss j v.length).isEmpty, .inl ⟨_, SqL.of hAq, ?_⟩, ?_⟩
            · rw [ee]
            · refine ite2 (fun e => ?_) (fun e => ?_)
              · rw [show (aheadL (dV D) v ss j v.length).isEmpty = true by rw [← Bool.not_not (aheadL (dV D) v ss j v.length).isEmpty]; exact e, if_pos rfl] at et
                refine ⟨_, rfl, .inl ⟨rfl, _, SqL.of hB4⟩, _, rfl, ?_⟩
                refine ⟨B, _, _, rfl, rfl, hB4, by rw [intsN_len]; exact size4 (by omega), Same.put s14 hB, ⟨_, _, rfl⟩, ?_⟩
                rw [upd_same, et]
                unfold intsN
                rw [List.map_append]
                rfl
              · rw [if_neg (show ¬ (aheadL (dV D) v ss j v.length).isEmpty = true from fun z => e (by rw [z]; rfl)), List.append_nil] at et
                exact ⟨s14, ⟨_, _, rfl⟩, by rw [et]; exact hB4⟩
        · subst eσ
          have m3 := m1.same s3
          have ne := bestL_ne (dV_asc gd) vp nn (s := ss) (by omega)
          have lB : (bestL (dV D) v ss v.length).length ≤ v.length := by
            have := List.length_filter_le (fun i => (aheadL (dV D) v ss i v.length).isEmpty) (List.range v.length)
            rw [List.length_range] at this
            exact this
          have l0 : 0 < (bestL (dV D) v ss v.length).length := List.length_pos_iff.mpr ne
          refine ⟨_, rfl, _, rfl, _, rfl, B, _, rfl, .inl (SqL.of hBj), s, l, ns, _, rfl, ?_, ?_, m3.a, fun H4 e m4 e0 em => ?_⟩
          · rw [intsN_len]
            omega
          · rw [intsN_len]
            omega
          · rw [intsN_len] at em
            have hB4 := m3.own hB0 m4 hBj
            have hG4 := m3.own (Same.free (Same.refl H) hG) m4 (s3 _ _ hss)
            have le : e.toNat < (bestL (dV D) v ss v.length).length := by omega
            have hbe := best_of (List.getElem_mem le)
            generalize eb : (bestL (dV D) v ss v.length)[e.toNat] = be at hbe
            refine ⟨B, _, _, .int (be : Int), rfl, rfl, SqL.of hB4, ?_, ?_⟩
            · rw [show e = ((e.toNat : Nat) : Int) by omega]
              refine atI_nat ?_
              unfold intsN
              rw [List.getElem?_map, List.getElem?_eq_getElem (by simpa using le)]
              simp [eb]
            refine ⟨_, rfl, _, rfl, G, _, _, _, rfl, rfl, SqL.of hG4, at_int rfl (by omega), _, _, rfl, rfl, ?_⟩
            have lb : be < ss.length := by omega
            refine ⟨_, rfl, _, rfl, G, _, _, be, rfl, rfl, hG4, Evl.ixN_nat (by rw [List.length_map]; exact lb), (m3.trans m4).put hG, ⟨_, _, _, _, rfl⟩, ss.set be (ss.getD be 0 + 1), ?_, by rw [List.length_set]; exact lss, fun z hz => ?_, ?_, keeps_step (dV_asc gd) vp nn lss kp hbe.1 hbe.2⟩
            · rw [upd_same, List.map_set]
            · rcases List.mem_or_eq_of_mem_set hz with hz | hz
              · exact nn z hz
              · have := (sl be).1
                omega
            · rw [sum_set' _ lb, sum]
              omega
      · subst eσ
        exact ⟨_, rfl, G, _, rfl, .inl ⟨SqL.of hss, fun q hq => k _ _ ss (m1.same (same_new hq)) ⟨q, rfl, upd_same⟩ lss nn sum kp⟩⟩
end
end Ds
set_option maxHeartbeats 4000000
namespace Ds
open PySem PySem.Spec PyProof.Rows L2
structure AllIs (n : Nat) (house : Int) (z : List Int) : Prop where
  len : z.length = n
  nn : ∀ x ∈ z, 0 ≤ x
  sum : z.sum ≤ house
section
variable {P : Program} {w : World} {K : PySem.W.Frag} {mg : Str → Option Value} {base : Heap}
/-! ### _law_all_seats -/
def spLAll : Sp := fun vs H Q _ => ∃ (n : Nat) (house : Int), vs = [.int (n : Nat), .int house] ∧ n ≤ 5 ∧ 0 ≤ house ∧ house ≤ 8 ∧ ∀ H' L xs zs, Same H H' → H L = none → H' L = some (.lst xs) → Paired (Ints H') xs zs → (∀ z ∈ zs, AllIs n house z ∧ z.sum = house) → Q (.ref L) H'
abbrev nLAll : List Str := ["_law_many", "_law_house", "_law_rows", "_law_k", "_law_longer", "_law_row", "_law_left"]
theorem scLAll : FnScope nLAll ["_law_many", "_law_house"] (defScope s__law_all_seats) := ⟨rfl, rfl, rfl, by decide +kernel, rfl, by decide +kernel, by decide +kernel⟩
def teLAll (K : PySem.W.Frag) : TE := tOp (rCatA K) (tVar 5) (tTup (tCons (tVar 6) tNil))
def ttLAll (K : PySem.W.Frag) : TT := tTest (tOp rEq (tCB (rSumT K) (tCons (tVar 5) tNil)) (tVar 1))
theorem ok_lall (T : Txt mg) (F : Dfn K mg "_law_all_seats" "_law_all_seats" s__law_all_seats) : Prm P w K mg base 1 "_law_all_seats" spLAll := by
  refine F.prm scLAll (fun _ _ _ _ _ _ us hl => match us, hl with | [_, _], _ => rfl) (fun vs H Q E h => ?_) (fun f cdv A outer s H vs Q E hr h => ?_)
  · obtain ⟨_, _, rfl, _⟩ := h
    rfl
  · obtain ⟨n, house, rfl, n5, h0, h8, k⟩ := h
    have nd := scLAll.nd
    refine ⟨_, pss_cons (ps_set (i := 2) nd rfl (.inl rfl) (pe_lst (pa_cons (pe_tup pa_nil) pa_nil)))
      (pss_cons (ps_for PassesOwn.never rfl (pi_range1 (by rfl) T.range (pa_cons (pv 0) pa_nil)) (pg_name (i := 3) nd rfl (.inl rfl))
        (pss_cons (ps_set (i := 4) nd rfl (.inl rfl) (pe_lst pa_nil))
        (pss_cons (ps_for PassesOwn.never rfl (pi_list (pv 2)) (pg_name (i := 5) nd rfl (.inr rfl))
          (pss_one (ps_set (i := 4) nd rfl (.inl rfl) (pe_op op_cat (pv 4) (pe_lc (own := [("_law_left", 6)]) (g := gName 6) (te := teLAll K) rfl nd
              (pi_range3 (by rfl) T.range (pa_cons (pe_op op_sub (pv 1) (pe_callB (cr_sumT rfl) (by rfl) T.sum (by decide +kernel) (pa_cons (pv 5) pa_nil))) (pa_cons (pe_un un_neg pe_int) (pa_cons (pe_un un_neg pe_int) pa_nil)))) (blkOk_by (N := nLAll) (sc := defScope s__law_all_seats) (by decide +kernel))
              (fun _ _ _ _ _ => pg_name (i := 6) nd rfl (.inl rfl)) (fun _ _ _ _ _ => pts_nil)
              (fun _ _ _ _ _ => pe_op op_catA (pv 5) (pe_tup (pa_cons (pv 6) pa_nil))))))))
        (pss_one (ps_set (i := 2) nd rfl (.inl rfl) (pv 4))))))
      (pss_one (ps_ret (pe_lc (own := [("_law_row", 5)]) (g := gName 5) (tt := ttLAll K) rfl nd (pi_list (pv 2)) (blkOk_by (N := nLAll) (sc := defScope s__law_all_seats) (by decide +kernel))
        (fun _ _ _ _ _ => pg_name (i := 5) nd rfl (.inl rfl))
        (fun _ _ _ _ _ => pts_one (pt_cmpR op_eq (pe_callB (cr_sumT rfl) (by rfl) T.sum (by decide +kernel) (pa_cons (pv 5) pa_nil)) (pv 1) (nomark _))) (fun _ _ _ _ _ => pv 5))))), ?_⟩
    have p9 : ∀ i : Nat, i ≤ 5 → (9 : Nat) ^ i ≤ 59049 := fun i hi => Nat.le_trans (Nat.pow_le_pow_right (by decide) hi) (by decide)
    -- rows = [()]
    refine ⟨Nat.zero_le _, fun p hp => ?_⟩
    have sp := same_new (o := HO.tup []) hp
    generalize eHp : upd H p (HO.tup []) = H1 at sp
    have hpp : H1 p = some (.tup []) := by rw [← eHp]; exact upd_same
    refine ⟨by show 1 ≤ sizeLine; decide, fun L hL => ?_⟩
    have sL := same_new (o := HO.lst [.ref p]) hL
    have s03 := Same.trans sp sL
    have hL0 : H L = none := Same.free sp hL
    refine ⟨_, rfl, n, rfl, by omega, by omega, ?_⟩
    rw [show ((n : Nat) : Int).toNat = n from rfl]
    refine for_range (lo := 0) (n := n) (fun i σ H' => Same H H' ∧ ∃ M xs zs s3 s4 s5, σ = [some (.int (n : Nat)), some (.int house), some (.ref M), s3, s4, s5, none] ∧ H M = none ∧ H' M = some (.lst xs) ∧ Paired (Ints H') xs zs ∧ (∀ z ∈ zs, AllIs i house z) ∧ zs.length ≤ 9 ^ i)
      ⟨s03, L, [.ref p], [[]], none, none, none, rfl, hL0, upd_same, .cons ⟨p, rfl, sL _ _ hpp⟩ .nil, fun z hz => ?_, Nat.le_refl 1⟩ (fun i σ H' hi ⟨sm, M, xs, zs, s3, s4, s5, eσ, hM0, hM, pr, all, cnt⟩ => ?_) (fun σ H' ⟨sm, M, xs, zs, s3, s4, s5, eσ, hM0, hM, pr, all, cnt⟩ => ?_)
    · rw [List.mem_singleton.mp hz]
      exact ⟨rfl, fun x hx => (nomatch hx), h0⟩
    · subst eσ
      have lx := Paired.length pr
      refine ⟨Nat.zero_le _, fun G hG => ?_⟩
      have sG := same_new (o := HO.lst []) hG
      have hG0 := Same.free sm hG
      generalize eHG : upd H' G (HO.lst []) = H3 at sG
      have hGG : H3 G = some (.lst []) := by rw [← eHG]; exact upd_same
      have hM3 := sG _ _ hM
      have pr3 := ints_tk pr sG.tk
      refine ⟨_, rfl, M, rfl, ⟨xs, SqL.of hM3⟩, for_list (K := K) (a := M) (xs := xs) (fun j σ H' => Same H3 H' ∧ ∃ G' ys us s5, σ = [some (.int (n : Nat)), some (.int house), some (.ref M), some (.int (0 + (i : Int))), some (.ref G'), s5, none] ∧ H G' = none ∧ H' G' = some (.lst ys) ∧ Paired (Ints H') ys us ∧ (∀ z ∈ us, AllIs (i + 1) house z) ∧ us.length ≤ 9 * j)
        ⟨Same.refl H3, G, [], [], s5, rfl, hG0, hGG, .nil, fun z hz => (nomatch hz), Nat.le_refl 0⟩ (fun j σ H' _ ⟨h, _⟩ => SqL.of (h _ _ hM3)) (fun j x H4' H4 hj ⟨sm4, G', ys, us, s5, eσ, hG0, hG4, py, ally, cnty⟩ => ?_) (fun σ H4 ⟨sm4, G', ys, us, s5, eσ, hG0, hG4, py, ally, cnty⟩ => ?_)⟩
      · subst eσ
        have pr4 := ints_tk pr3 sm4.tk
        obtain ⟨z, hz, a, rfl, ha⟩ := paired_get pr4 hj
        have ok := all z (List.mem_of_getElem? hz)
        have lj := (List.getElem?_eq_some_iff.mp hz).1
        have okl := ok.len
        have oks := ok.sum
        have okn := sum_nn ok.nn
        have p9i : (9 : Nat) ^ i ≤ 6561 := Nat.le_trans (Nat.pow_le_pow_right (by decide) (show i ≤ 4 by omega)) (by decide)
        refine ⟨_, rfl, ?_⟩
        refine ⟨_, rfl, _, rfl, a, z, rfl, SqT.of ha, _, _, rfl, rfl, _, rfl, _, rfl, house - z.sum, -1, -1, _, rfl, RgC.neg (by omega) (by omega) (by decide) (by decide), fun D hD => ?_⟩
        rw [show (house - z.sum - -1).toNat = (house - z.sum).toNat + 1 by omega]
        have nGD : G' ≠ D := ne_of_none hG4 hD
        refine lc_it walk_rangeC (fun m H' => Same H4 H' ∧ ∃ vs ts, H' D = some (.lst vs) ∧ Paired (Ints H') vs ts ∧ (∀ z ∈ ts, AllIs (i + 1) house z) ∧ ts.length = m)
          ⟨same_new hD, [], [], upd_same, .nil, fun z hz => (nomatch hz), rfl⟩ (fun _ _ _ _ => trivial) (fun m x H5 H5' hm ⟨sm5, vs, ts, hvs, pz, allz, lz⟩ ⟨eH5, ex⟩ => ?_) (fun H5 ⟨sm5, vs, ts, hvs, pz, allz, lz⟩ => ?_)
        · have eH5 := eH5.symm
          subst eH5
          obtain ⟨lt, elt, ex⟩ : ∃ lt, house - z.sum + (m : Int) * -1 = lt ∧ x = .int lt := ⟨_, rfl, ex⟩
          subst ex
          have lv := Paired.length pz
          have lt0 : 0 ≤ lt ∧ lt ≤ house - z.sum := by omega
          refine ⟨rfl, _, rfl, _, rfl, by show 1 ≤ sizeLine; decide, fun c hc => ?_⟩
          have sc := same_new (o := HO.tup [.int lt]) hc
          generalize eHc : upd H5 c (HO.tup [.int lt]) = H6 at sc
          have hcc : H6 c = some (.tup [.int lt]) := by rw [← eHc]; exact upd_same
          have ha6 := sc _ _ (sm5 _ _ ha)
          have new : AllIs (i + 1) house (z ++ [lt]) := ⟨by rw [List.length_append, okl]; rfl, fun x hx => by
            rcases List.mem_append.mp hx with hx | hx
            · exact ok.nn x hx
            · rw [List.mem_singleton.mp hx]
              exact lt0.1, by rw [sum_snoc]; omega⟩
          have fin : ∀ (x2 : V) (H7 : Hp), Same H6 H7 → Ints H7 x2 (z ++ [lt]) → ∃ acc, H7 D = some (.lst acc) ∧ acc.length < sizeLine ∧ (Same H4 (upd H7 D (.lst (acc ++ [x2]))) ∧ ∃ vs ts, (upd H7 D (.lst (acc ++ [x2]))) D = some (.lst vs) ∧ Paired (Ints (upd H7 D (.lst (acc ++ [x2])))) vs ts ∧ (∀ z ∈ ts, AllIs (i + 1) house z) ∧ ts.length = m + 1) := fun x2 H7 s7 hx2 => by
            have hD7 := s7 _ _ (sc _ _ hvs)
            have tkD : TK H7 (upd H7 D (.lst (vs ++ [x2]))) := TK.put (TK.refl _) fun z q => by rw [hD7] at q; cases q
            refine ⟨vs, hD7, size4 (by omega), Same.put (Same.trans (Same.trans sm5 sc) s7) hD, _, ts ++ [z ++ [lt]], upd_same, paired_snoc (ints_tk pz ((Same.trans sc s7).tk.trans tkD)) (hx2.tk tkD), fun u hu => ?_, by rw [List.length_append, lz]; rfl⟩
            rcases List.mem_append.mp hu with hu | hu
            · exact allz u hu
            · rw [List.mem_singleton.mp hu]
              exact new
          refine ⟨a, c, _, _, rfl, rfl, SqT.of ha6, SqT.of hcc, ?_, fun e => ?_, fun _ e => (nomatch e), fun _ _ d hd => ?_⟩
          · rw [List.length_map, okl]
            exact size5 (by show i + 1 ≤ 100000; omega)
          · have e0 : z = [] := List.map_eq_nil_iff.mp e
            exact fin (.ref c) H6 (Same.refl _) ⟨c, rfl, by rw [e0]; exact hcc⟩
          · refine fin (.ref d) _ (same_new hd) ⟨d, rfl, ?_⟩
            rw [upd_same]
            show some (HO.tup (z.map V.int ++ [V.int lt])) = some (tupI (z ++ [lt]))
            unfold tupI
            rw [List.map_append]
            rfl
        · have hG5 := sm5 _ _ hG4
          have l1 := Paired.length py
          have l2 := Paired.length pz
          refine ⟨G', D, ys, vs, rfl, rfl, hG5, hvs, size5 (by omega), fun q hq => ?_⟩
          have sq := same_new (o := HO.lst (ys ++ vs)) hq
          have sm45 := Same.trans (Same.trans sm4 sm5) sq
          refine ⟨sm45, q, _, us ++ ts, _, rfl, ?_, upd_same, paired_app (ints_tk py (Same.trans sm5 sq).tk) (ints_tk pz sq.tk), fun u hu => ?_, by rw [List.length_append]; omega⟩
          · exact Same.free sm (Same.free sG (Same.free (Same.trans sm4 sm5) hq))
          · rcases List.mem_append.mp hu with hu | hu
            · exact ally u hu
            · exact allz u hu
      · subst eσ
        refine ⟨_, rfl, Same.trans (Same.trans sm sG) sm4, G', ys, us, _, _, _, rfl, hG0, hG4, py, ally, ?_⟩
        rw [Nat.pow_succ]
        omega
    · subst eσ
      have lx := Paired.length pr
      have p9i := p9 n n5
      refine ⟨_, rfl, M, rfl, ⟨xs, SqL.of hM⟩, fun D hD => lc_list (K := K) (a := M) (xs := xs) (fun j H2 => Same H' H2 ∧ ∃ ys us, H2 D = some (.lst ys) ∧ Paired (Ints H2) ys us ∧ (∀ z ∈ us, AllIs n house z ∧ z.sum = house) ∧ us.length ≤ j)
        ⟨same_new hD, [], [], upd_same, .nil, fun z hz => (nomatch hz), Nat.le_refl 0⟩ (fun j H2 _ ⟨sm2, _⟩ => SqL.of (sm2 _ _ hM)) (fun j x H2 hj ⟨sm2, ys, us, hys, py, ally, cnty⟩ => ?_) (fun H2 ⟨sm2, ys, us, hys, py, ally, cnty⟩ => k H2 D ys us (Same.trans sm sm2) (Same.free sm hD) hys py ally)⟩
      obtain ⟨z, hz, a, rfl, ha⟩ := paired_get pr hj
      have lj := (List.getElem?_eq_some_iff.mp hz).1
      refine ⟨rfl, _, rfl, a, z, rfl, SqT.of (sm2 _ _ ha), _, rfl, rfl, _, rfl, ite2 (fun e => ?_) (fun e => ?_)⟩
      · have e : z.sum = house := V.int.inj (of_decide_eq_true e)
        have tkD : TK H2 (upd H2 D (.lst (ys ++ [.ref a]))) := TK.put (TK.refl _) fun z q => by rw [hys] at q; cases q
        have l1 := Paired.length py
        refine ⟨_, rfl, ys, hys, size4 (by omega), Same.put sm2 hD, _, us ++ [z], upd_same, paired_snoc (ints_tk py tkD) ⟨a, rfl, tkD _ _ (sm2 _ _ ha)⟩, fun u hu => ?_, by rw [List.length_append]; show us.length + 1 ≤ _; omega⟩
        rcases List.mem_append.mp hu with hu | hu
        · exact ally u hu
        · rw [List.mem_singleton.mp hu]
          exact ⟨all z (List.mem_of_getElem? hz), e⟩
      · exact ⟨sm2, ys, us, hys, py, ally, by omega⟩
/-! ### _law_fitting_results -/
/-- results that these divisors give -/
structure Given (D : List Int) (many : Nat) (rs : List Res) : Prop where
  len : rs.length = many
  good : ∀ r ∈ rs, GoodR r
  keeps : KeepsAll (dV D) rs
def spFitR : Sp := fun vs H Q _ => ∃ (s l : Addr) (ns D : List Int) (x : V) (m : Nat), vs = [.ref s, x, .int (m : Nat)] ∧ StrAt H s l ns ∧ Ints H x D ∧ GoodD D ∧ m ≤ 5 ∧ ∀ H' r rs, Stm s l ns H H' → IsRs H' r rs → Given D m rs → Q r H'
abbrev nFitR : List Str := ["_law_stream_here", "_law_divisors_here", "_law_many", "_law_found", "_law_k", "_law_votes_here"]
theorem scFitR : FnScope nFitR ["_law_stream_here", "_law_divisors_here", "_law_many"] (defScope s__law_fitting_results) := ⟨rfl, rfl, rfl, by decide +kernel, rfl, by decide +kernel, by decide +kernel⟩
theorem ok_fitr (T : Txt mg) (F : Dfn K mg "_law_fitting_results" "_law_fitting_results" s__law_fitting_results) (GN : Prm P w K mg base 1 "_law_next" spNext) (GV : Prm P w K mg base 2 "_law_votes" spLVotes) (GS : Prm P w K mg base 2 "_law_seated" spSeated) : Prm P w K mg base 3 "_law_fitting_results" spFitR := by
  refine F.prm scFitR (fun _ _ _ _ _ _ us hl => match us, hl with | [_, _, _], _ => rfl) (fun vs H Q E h => ?_) (fun f cdv A outer s H vs Q E hr h => ?_)
  · obtain ⟨_, _, _, _, _, _, rfl, _⟩ := h
    rfl
  · obtain ⟨s, l, ns, D, x, m, rfl, hst, hx, gd, m5, k⟩ := h
    have nd := scFitR.nd
    refine ⟨_, pss_cons (ps_set (i := 3) nd rfl (.inl rfl) (pe_lst pa_nil))
      (pss_cons (ps_for PassesOwn.never rfl (pi_range1 (by rfl) T.range (pa_cons (pv 2) pa_nil)) (pg_name (i := 4) nd rfl (.inl rfl))
        (pss_cons (ps_set (i := 5) nd rfl (.inl rfl) (pe_prm GV hr (by decide) (by rfl) (pa_cons (pv 0) (pa_cons pe_int pa_nil))))
        (pss_one (ps_expr (pe_bm PySem.F.plainAttrs_list PySem.F.slot_list_append PySem.F.type_list_append mt_append (pv 3)
          (pa_cons (pe_tup (pa_cons (pv 5) (pa_cons (pe_prm GS hr (by decide) (by rfl) (pa_cons (pv 0) (pa_cons (pv 1) (pa_cons (pv 5) (pa_cons (pe_prm GN hr (by decide) (by rfl) (pa_cons (pv 0) (pa_cons pe_int pa_nil))) pa_nil))))) pa_nil))) pa_nil))))))
      (pss_one (ps_ret (pe_callTy call_tuple_of (by rfl) T.tuple (by decide +kernel) (pa_cons (pv 3) pa_nil))))), ?_⟩
    refine ⟨Nat.zero_le _, fun G hG => ?_⟩
    have m0 := Stm.of hst (same_new (o := HO.lst []) hG)
    generalize eH1 : upd H G (HO.lst []) = H1 at m0
    have hG1 : H1 G = some (.lst []) := by rw [← eH1]; exact upd_same
    refine ⟨_, rfl, m, rfl, by omega, by omega, ?_⟩
    rw [show ((m : Nat) : Int).toNat = m from rfl]
    refine for_range (lo := 0) (n := m) (fun i σ H' => Stm s l ns H H' ∧ (∃ s4 s5, σ = [some (.ref s), some x, some (.int (m : Nat)), some (.ref G), s4, s5]) ∧ ∃ xs rs, H' G = some (.lst xs) ∧ Paired (IsR H') xs rs ∧ Given D i rs)
      ⟨m0, ⟨none, none, rfl⟩, [], [], hG1, .nil, rfl, fun r hr => (nomatch hr), fun r hr => (nomatch hr)⟩ (fun i σ H' hi ⟨mH, ⟨s4, s5, eσ⟩, xs, rs, hxs, pr, gv⟩ => ?_) (fun σ H' ⟨mH, ⟨s4, s5, eσ⟩, xs, rs, hxs, pr, gv⟩ => ?_)
    · subst eσ
      have lx := Paired.length pr
      have lg := gv.len
      refine ⟨_, rfl, s, l, ns, 3, rfl, mH.a, by decide, by decide, fun H2 y v m2 hy v1 gvv => ?_⟩
      have hG2 := mH.own hG m2 hxs
      have m02 := mH.trans m2
      refine ⟨_, rfl, .inl ⟨rfl, _, SqL.of hG2⟩, ?_⟩
      refine ⟨_, rfl, _, rfl, _, rfl, _, rfl, _, rfl, s, l, ns, 6, rfl, by decide, by decide, m02.a, fun H3 h m3 h0 h6 => ?_⟩
      have m03 := m02.trans m3
      have hG3 := m02.own hG m3 hG2
      refine ⟨s, l, ns, D, v, x, y, h.toNat, by rw [show ((h.toNat : Nat) : Int) = h by omega]; rfl, m03.a, hx.tk m03.tk, gd, hy.tk m3.tk, gvv, v1, by omega, fun H4 r ss m4 hr lss nn sum kp => ?_⟩
      have m04 := m03.trans m4
      have hG4 := m03.own hG m4 hG3
      refine ⟨by show 2 ≤ sizeLine; decide, fun q hq => ?_⟩
      have sq := same_new (o := HO.tup [y, r]) hq
      have hG5 := sq _ _ hG4
      refine ⟨G, _, _, rfl, rfl, hG5, size4 (by omega), (m04.same sq).put hG, ⟨_, _, rfl⟩, _, rs ++ [(v, ss)], upd_same, ?_, ?_⟩
      · have tkG : TK (upd H4 q (HO.tup [y, r])) (upd (upd H4 q (HO.tup [y, r])) G (.lst (xs ++ [.ref q]))) := TK.put (TK.refl _) fun z e => by rw [hG5] at e; cases e
        have tk4 : TK H4 (upd (upd H4 q (HO.tup [y, r])) G (.lst (xs ++ [.ref q]))) := sq.tk.trans tkG
        refine paired_snoc (paired_mono pr fun _ _ h => h.tk (((m2.tk.trans m3.tk).trans m4.tk).trans tk4)) ⟨q, y, r, rfl, tkG _ _ upd_same, hy.tk ((m3.tk.trans m4.tk).trans tk4), hr.tk tk4⟩
      · have new : GoodR (v, ss) := ⟨gvv, lss, fun z hz => by
          have a1 := nn z hz
          have a2 := le_sum nn z hz
          show 0 ≤ z ∧ z ≤ 8
          omega, by show ss.sum ≤ 8; omega⟩
        refine ⟨by rw [List.length_append, lg]; rfl, fun r hr => ?_, fun r hr => ?_⟩
        · rcases List.mem_append.mp hr with hr | hr
          · exact gv.good r hr
          · rw [List.mem_singleton.mp hr]
            exact new
        · rcases List.mem_append.mp hr with hr | hr
          · exact gv.keeps r hr
          · rw [List.mem_singleton.mp hr]
            exact kp
    · subst eσ
      exact ⟨_, rfl, G, _, rfl, .inl ⟨SqL.of hxs, fun q hq => k _ _ rs (mH.same (same_new hq)) ⟨q, _, rfl, upd_same, paired_mono pr fun _ _ h => h.tk (same_new hq).tk⟩ gv⟩⟩
end
end Ds
set_option maxHeartbeats 4000000
namespace Ds
open PySem PySem.Spec PyProof.Rows L2
/-! ### tuples of ints as data -/
def iD (ns : List Int) : PyData := .tuple (ns.map PyData.int)
theorem intsD_lay : ∀ ns : List Int, PyData.canLayAll0 (ns.map PyData.int) = true
  | [] => by simp [PyData.canLayAll0]
  | n :: ns => by simp [PyData.canLayAll0, PyData.canLay0, intsD_lay ns]
theorem intsD_depth : ∀ ns : List Int, PyData.depthAll (ns.map PyData.int) ≤ 1
  | [] => by simp [PyData.depthAll]
  | n :: ns => by
    have h := intsD_depth ns
    simp only [List.map_cons, PyData.depthAll, PyData.depth]
    omega
theorem iD_lay (ns : List Int) : (iD ns).canLay0 = true := by
  unfold iD
  simp only [PyData.canLay0]
  exact intsD_lay ns
theorem iD_depth (ns : List Int) : (iD ns).depth ≤ 2 := by
  have h := intsD_depth ns
  unfold iD
  simp only [PyData.depth]
  omega
theorem iDs_lay : ∀ zs : List (List Int), PyData.canLayAll0 (zs.map iD) = true
  | [] => by simp [PyData.canLayAll0]
  | z :: zs => by simp [PyData.canLayAll0, iD_lay z, iDs_lay zs]
theorem iDs_depth : ∀ zs : List (List Int), PyData.depthAll (zs.map iD) ≤ 3
  | [] => by simp [PyData.depthAll]
  | z :: zs => by
    have h1 := iDs_depth zs
    have h2 := iD_depth z
    simp only [List.map_cons, PyData.depthAll]
    omega
theorem iD_shaped (ns : List Int) : SeqAt.shaped (iD ns) = true := by
  have h := iD_depth ns
  show ((iD ns).canLay0 && decide ((iD ns).depth ≤ 64)) = true
  rw [Bool.and_eq_true]
  exact ⟨iD_lay ns, decide_eq_true (by omega)⟩
theorem iDs_shaped (zs : List (List Int)) : SeqAt.shaped (.list (zs.map iD)) = true := by
  have h1 := iDs_depth zs
  have h2 : PyData.depth (.list (zs.map iD)) ≤ 64 := by
    simp only [PyData.depth]
    omega
  show (PyData.canLay0 (.list (zs.map iD)) && decide (PyData.depth (.list (zs.map iD)) ≤ 64)) = true
  rw [Bool.and_eq_true]
  exact ⟨by simp only [PyData.canLay0]; exact iDs_lay zs, decide_eq_true h2⟩
theorem iD_refl (a : List Int) : PyData.eqv (iD a) (iD a) = true := SeqAt.eqv_refl _ (iD_lay a)
section
variable {K : PySem.W.Frag} {H : Hp}
theorem dpInts : ∀ ns : List Int, DpAll K H (ns.map V.int) (ns.map PyData.int)
  | [] => .nil
  | n :: ns => .cons (.int n) (dpInts ns)
theorem Ints.dp {v : V} {ns : List Int} (h : Ints H v ns) : Dp K H v (iD ns) := by
  obtain ⟨a, rfl, ha⟩ := h
  exact .tup (SqT.of ha) (dpInts ns)
theorem dpAll : ∀ {xs : List V} {zs : List (List Int)}, Paired (Ints H) xs zs → DpAll K H xs (zs.map iD)
  | _, _, .nil => .nil
  | _, _, .cons r t => .cons r.dp (dpAll t)
end
end Ds
set_option maxHeartbeats 8000000
namespace Ds
open PySem PySem.Spec PyProof.Rows L2
theorem pos_of {d : Int → Int} (hd : Asc d) {rs : List Res} {v ss : List Int} {house : Int} (hg : ∀ r ∈ rs, GoodR r) (hk : KeepsAll d rs) (gv : GoodV v) (h0 : 0 ≤ house) (h8 : house ≤ 8) (len : ss.length = v.length) (nn : ∀ z ∈ ss, 0 ≤ z) (sum : ss.sum = house) (kp : Keeps d v ss) : ss ∈ posL rs v house := by
  refine (mem_posL h0).mpr ⟨⟨len, nn, sum⟩, no_round hd (fun r hr => ?_) fun r hr => ?_⟩
  · rcases List.mem_append.mp hr with hr | hr
    · exact hg r hr
    · rw [List.mem_singleton.mp hr]
      exact ⟨gv, goodS_of h0 h8 ((mem_allSeats h0).mpr ⟨len, nn, sum⟩)⟩
  · rcases List.mem_append.mp hr with hr | hr
    · exact hk r hr
    · rw [List.mem_singleton.mp hr]
      exact kp
theorem posL_len {rs : List Res} {v : List Int} {house : Int} (h0 : 0 ≤ house) (h8 : house ≤ 8) (l5 : v.length ≤ 5) : (posL rs v house).length ≤ 59049 := by
  unfold posL
  have a0 := List.length_filter_le (fun s : List Int => okB (rs ++ [(v, s)])) (allSeats v.length house)
  have la : (allSeats v.length house).length ≤ 59049 := by
    unfold allSeats
    rw [List.length_map]
    have a1 := List.length_filter_le (fun r : Row => decide (r.2 = 0)) (seatRows house v.length)
    have a2 := rows_len h0 h8 v.length
    have a3 : 9 ^ v.length ≤ 9 ^ 5 := Nat.pow_le_pow_right (by decide) l5
    have a4 : (9 : Nat) ^ 5 = 59049 := by decide
    omega
  omega
theorem Given.app {D : List Int} {m n : Nat} {rs ms : List Res} (g : Given D m rs) (h : Given D n ms) : Given D (m + n) (rs ++ ms) := by
  refine ⟨by rw [List.length_append, g.len, h.len], fun r hr => ?_, fun r hr => ?_⟩
  · exact (List.mem_append.mp hr).elim (g.good r) (h.good r)
  · exact (List.mem_append.mp hr).elim (g.keeps r) (h.keeps r)
theorem u65 {k : Nat} {A : Around} (r : Room k A) : A.units + 65 < cLine := by have := r.un; omega
theorem take_getD {l : List Int} {n i : Nat} (h : i < n) : (l.take n).getD i 0 = l.getD i 0 := by simp [List.getD, List.getElem?_take, h]
theorem goodM_take {D : List Int} (g : GoodD D) {st : Int} (h1 : 1 ≤ st) (h2 : st ≤ 2) : GoodM (D.take 3) st := by
  have l1 := g.len1
  have lt : (D.take 3).length = min 3 D.length := List.length_take
  refine ⟨by omega, by omega, fun x hx => g.one x (List.mem_of_mem_take hx), fun i hi => ?_, h1, by omega⟩
  rw [take_getD (by omega), take_getD (by omega)]
  exact g.asc i (by omega)
section
variable {P : Program} {w : World} {K : PySem.W.Frag} {mg : Str → Option Value} {base : Heap}
/-! ### the test: seats not told, or not the certain ones -/
def ttTold (K : PySem.W.Frag) : TT := tOr (tTest (tOp (rNotInD K) (tVar 9) (tVar 6))) (tAnd (tTest (tOp (fun x y H Q => y = .non ∧ Q (.bl (!decide (x = .non))) H) (tVar 7) (tC .non))) (tTest (tOp (rNeD K) (tVar 9) (tVar 7))))
/-- what certain tells of what is possible -/
def One (H : Hp) (r : V) (ps : List (List Int)) : Prop := (∃ s, ps = [s] ∧ Ints H r s) ∨ r = .non
theorem One.tk {H H' : Hp} {r : V} {ps : List (List Int)} (h : One H r ps) (t : TK H H') : One H' r ps := h.elim (fun ⟨s, e, i⟩ => .inl ⟨s, e, i.tk t⟩) .inr
theorem told_no {σ : L2.St} {H : Hp} {L : Addr} {r z : V} {xs : List V} {ps : List (List Int)} {ss : List Int} {Q : Bool → Hp → Prop} (h6 : σ[6]? = some (some (.ref L))) (h7 : σ[7]? = some (some r)) (h9 : σ[9]? = some (some z))
    (hL : H L = some (.lst xs)) (pr : Paired (Ints H) xs ps) (h1 : One H r ps) (hz : Ints H z ss) (mem : ss ∈ ps) (q : Q false H) : ttTold K σ H Q := by
  have e : ((ps.map iD).any fun z => PyData.eqv z (iD ss)) = true := List.any_eq_true.mpr ⟨iD ss, List.mem_map.mpr ⟨ss, mem, rfl⟩, iD_refl ss⟩
  refine ⟨_, h9, _, h6, iD ss, ps.map iD, hz.dp, .lst (SqL.of hL) (dpAll pr), iD_shaped _, iDs_shaped _, _, rfl, ?_⟩
  rw [e]
  refine iteF ⟨_, h7, rfl, _, rfl, ?_⟩
  rcases h1 with ⟨s, es, hs⟩ | e1
  · have e2 : ss = s := by
      rw [es] at mem
      exact List.mem_singleton.mp mem
    subst e2
    have d := hs.dp (K := K)
    obtain ⟨a, rfl, ha⟩ := hs
    refine iteT ⟨_, h9, _, h7, iD ss, iD ss, hz.dp, d, iD_shaped _, iD_shaped _, _, rfl, ?_⟩
    rw [iD_refl]
    exact q
  · subst e1
    exact iteF q
/-! ### law -/
def spLaw (K : PySem.W.Frag) : Sp := fun vs H Q _ => ∃ (a : Addr) (ns : List Int), vs = [.ref a] ∧ SqL K H a (ns.map V.int) ∧ ∀ H', Q (.bl true) H'
abbrev nLaw : List Str := ["_law_script", "_law_stream_here", "_law_divisors_here", "_law_results_here", "_law_votes_here", "_law_house", "_law_told", "_law_one", "_law_turn", "_law_seats", "_law_method", "_law_more", "_law_later", "_law_some"]
theorem scLaw : FnScope nLaw ["_law_script"] (defScope s_law) := ⟨rfl, rfl, rfl, by decide +kernel, rfl, by decide +kernel, by decide +kernel⟩
/-- a def's promise by its own function object -/
theorem fn_ok {q : Str} {st : Stmt} {N ps : List Str} {k : Nat} {sp : Sp} {f : Addr} {fd : FuncData} (F : FunD K q q (defArgs st) (defBody st) (defScope st) [] [] f fd) (S : FnScope N ps (defScope st))
    (len : ∀ vs H Q E, sp vs H Q E → vs.length = ps.length)
    (hbody : ∀ (cdv : Value) (A : Around) (outer : List Env) (s : Shared) (H : Hp) (vs : List V) (Q : VK) (E : XK), Room k (A.deeper (envOfC q (defScope st) s.heap.objs.size f cdv)) → sp vs H Q E →
      ∃ t, PSs (cxOf CX0 P w K mg base N q (defScope st) f cdv A outer s H E).nox (defBody st) t ∧ t { nx := fun _ H' => Q .non H', rt := Q } (start N vs) H) : FnOk P w K mg base CX0 (k + 1) f fd ps sp :=
  F.ok S len fun cdv A outer s H vs Q E hr hsp => by
    obtain ⟨t, h, r⟩ := hbody cdv A outer s H vs Q E hr hsp
    exact ⟨t, h.nox, r⟩
theorem ok_law {f : Addr} {fd : FuncData} (T : Txt mg) (F : FunD K "law" "law" (defArgs s_law) (defBody s_law) (defScope s_law) [] [] f fd) (GSt : Prm P w K mg base 1 "_law_stream" (spStream K)) (GN : Prm P w K mg base 1 "_law_next" spNext) (GDs : Prm P w K mg base 2 "_law_divisors" spDivs)
    (GV : Prm P w K mg base 2 "_law_votes" spLVotes) (GS : Prm P w K mg base 2 "_law_seated" spSeated) (GA : Prm P w K mg base 1 "_law_all_seats" spLAll) (GF : Prm P w K mg base 3 "_law_fitting_results" spFitR)
    (GP : Prm P w K mg base 7 "possible" spPossible) (GC : Prm P w K mg base 7 "certain" spCertain) (GI : Prm P w K mg base 6 "is_valid" spValid) : FnOk P w K mg base CX0 8 f fd ["_law_script"] (spLaw K) := by
  refine fn_ok F scLaw (fun vs H Q E h => ?_) (fun cdv A outer sh H vs Q E hr h => ?_)
  · obtain ⟨_, _, rfl, _⟩ := h
    rfl
  · obtain ⟨a, ns, rfl, hS, k⟩ := h
    have nd := scLaw.nd
    refine ⟨_, pss_cons (ps_set (i := 1) nd rfl (.inl rfl) (pe_prm GSt hr (by decide) (by rfl) (pa_cons (pv 0) pa_nil)))
      (pss_cons (ps_set (i := 2) nd rfl (.inl rfl) (pe_prm GDs hr (by decide) (by rfl) (pa_cons (pv 1) pa_nil)))
      (pss_cons (ps_set (i := 3) nd rfl (.inl rfl) (pe_prm GF hr (by decide) (by rfl) (pa_cons (pv 1) (pa_cons (pv 2) (pa_cons (pe_prm GN hr (by decide) (by rfl) (pa_cons (pv 1) (pa_cons pe_int pa_nil))) pa_nil)))))
      (pss_cons (ps_set (i := 4) nd rfl (.inl rfl) (pe_prm GV hr (by decide) (by rfl) (pa_cons (pv 1) (pa_cons pe_int pa_nil))))
      (pss_cons (ps_set (i := 5) nd rfl (.inl rfl) (pe_prm GN hr (by decide) (by rfl) (pa_cons (pv 1) (pa_cons pe_int pa_nil))))
      (pss_cons (ps_set (i := 6) nd rfl (.inr rfl) (pe_prm GP hr (by decide) (by rfl) (pa_cons (pv 3) (pa_cons (pv 4) (pa_cons (pv 5) pa_nil)))))
      (pss_cons (ps_set (i := 7) nd rfl (.inl rfl) (pe_prm GC hr (by decide) (by rfl) (pa_cons (pv 3) (pa_cons (pv 4) (pa_cons (pv 5) pa_nil)))))
      (pss_cons (ps_for PassesOwn.never rfl (pi_range1 (by rfl) T.range (pa_cons pe_int pa_nil)) (pg_name (i := 8) nd rfl (.inl rfl))
        (pss_cons (ps_set (i := 9) nd rfl (.inl rfl) (pe_prm GS hr (by decide) (by rfl) (pa_cons (pv 1) (pa_cons (pv 2) (pa_cons (pv 4) (pa_cons (pv 5) pa_nil))))))
        (pss_one (ps_if (PW.pt (pw_or (pt_cmpR (op_notInD (u65 hr)) (pv 9) (pv 6) (by rfl)) (pw_or1 (PW.pt (pw_and (pt_cmpR op_notN (pv 7) pe_non (nomark _)) (pw_and1 (pt_cmpR (op_neD hr.units) (pv 9) (pv 7) (nomark _)))))))) pss_never pss_nil))))
      (Evl.pss_cut (ps_set (i := 10) nd rfl (.inr rfl) (pe_tup (pa_cons (pe_slice sl_tupA (pe_prm GDs hr (by decide) (by rfl) (pa_cons (pv 1) pa_nil)) po_none (po_some pe_int))
          (pa_cons (pe_op op_add pe_int (pe_prm GN hr (by decide) (by rfl) (pa_cons (pv 1) (pa_cons pe_int pa_nil)))) pa_nil))))
      (Evl.pss_cut (ps_if (pt_val (pe_callB (cr_all rfl) (by rfl) T.all (by decide +kernel) (pa_cons (pe_lc (own := [("_law_some", 13), ("_law_seats", 9)]) (g := g2 K 13 9) rfl nd (pi_tup (pv 3)) (blkOk_by (N := nLaw) (sc := defScope s_law) (by decide +kernel))
            (fun _ _ _ _ _ => pg_tup rfl (pgs_cons (pg_name (i := 13) nd rfl (.inl rfl)) (pgs_cons (pg_name (i := 9) nd rfl (.inl rfl)) pgs_nil))) (fun _ _ _ _ _ => pts_nil)
            (fun _ _ _ _ _ => pe_prm GI hr (by decide) (by rfl) (pa_cons (pv 10) (pa_cons (pv 13) (pa_cons (pv 9) pa_nil))))) pa_nil)))
          (pss_one (ps_for PassesOwn.never rfl (pi_list (pe_prm GA hr (by decide) (by rfl) (pa_cons (pe_callB call_len_seq (by rfl) T.len PySem.boot_len (pa_cons (pv 4) pa_nil)) (pa_cons (pv 5) pa_nil)))) (pg_name (i := 9) nd rfl (.inl rfl))
            (pss_one (ps_if (PW.pt (pw_and (pt_val (pe_prm GI hr (by decide) (by rfl) (pa_cons (pv 10) (pa_cons (pv 4) (pa_cons (pv 9) pa_nil))))) (pw_and1 (PW.pt (pw_or (pt_cmpR (op_notInD (u65 hr)) (pv 9) (pv 6) (by rfl)) (pw_or1 (PW.pt (pw_and (pt_cmpR op_notN (pv 7) pe_non (nomark _)) (pw_and1 (pt_cmpR (op_neD hr.units) (pv 9) (pv 7) (nomark _))))))))))) pss_never pss_nil)))) pss_nil)
      (Evl.pss_cut (ps_set (i := 11) nd rfl (.inl rfl) (pe_op op_catA (pv 3) (pe_prm GF hr (by decide) (by rfl) (pa_cons (pv 1) (pa_cons (pv 2) (pa_cons pe_int pa_nil))))))
      (pss_cons (ps_set (i := 12) nd rfl (.inl rfl) (pe_prm GP hr (by decide) (by rfl) (pa_cons (pv 11) (pa_cons (pv 4) (pa_cons (pv 5) pa_nil)))))
      (pss_cons (ps_if (PW.pt (pw_or (pt_not (pt_val (pe_callB (cr_all rfl) (by rfl) T.all (by decide +kernel) (pa_cons (pe_lc (own := [("_law_seats", 9)]) (g := gName 9) (te := tOp (rInD K) (tVar 9) (tVar 6)) rfl nd (pi_list (pv 12)) (blkOk_by (N := nLaw) (sc := defScope s_law) (by decide +kernel))
            (fun _ _ _ _ _ => pg_name (i := 9) nd rfl (.inl rfl)) (fun _ _ _ _ _ => pts_nil)
            (fun _ _ _ _ _ => pe_cmpR (op_inD (u65 hr)) (pv 9) (pv 6) (by rfl))) pa_nil)))) (pw_or1 (pt_not (pt_truth (pv 12) (by intro _; rfl)))))) pss_never pss_nil)
      (pss_one (ps_ret (pe_or (pe_cmpR op_isN (pv 7) pe_non (nomark _)) (pe_one (pe_cmpR (op_eqD hr.units) (pe_prm GC hr (by decide) (by rfl) (pa_cons (pv 11) (pa_cons (pv 4) (pa_cons (pv 5) pa_nil)))) (pv 7) (nomark _)))))))))))))))))), ?_⟩
    refine ⟨_, rfl, a, ns, rfl, hS, fun H1 s l s1 hs0 st1 => ?_⟩
    refine ⟨_, rfl, s, l, ns, rfl, st1, fun H2 x D m2 hx2 gd => ?_⟩
    refine ⟨_, rfl, _, rfl, _, rfl, s, l, ns, 4, rfl, by decide, by decide, m2.a, fun H3 n3 m3 a0 a4 => ⟨s, l, ns, D, x, n3.toNat, by rw [show ((n3.toNat : Nat) : Int) = n3 by omega]; rfl, m3.a, hx2.tk m3.tk, gd, by omega, fun H4 r rs m4 hrs gvn => ?_⟩⟩
    refine ⟨_, rfl, s, l, ns, 3, rfl, m4.a, by decide, by decide, fun H5 y v m5 hy v1 gv => ?_⟩
    refine ⟨_, rfl, s, l, ns, 5, rfl, by decide, by decide, m5.a, fun H6 hh m6 h0 h5 => ?_⟩
    have l5 := gv.len
    have h8 : hh ≤ 8 := by omega
    have lrs := gvn.len
    have asc := dV_asc gd
    refine ⟨_, rfl, _, rfl, _, rfl, r, y, rs, v, hh, rfl, ⟨hrs.tk (m5.trans m6).tk, gvn.good, by omega, hy.tk m6.tk, gv, h0, h8⟩, fun H7 L xs s7 hL0 hL pxs => ?_⟩
    refine ⟨_, rfl, _, rfl, _, rfl, r, y, rs, v, hh, rfl, ⟨(hrs.tk (m5.trans m6).tk).tk s7.tk, gvn.good, by omega, (hy.tk m6.tk).tk s7.tk, gv, h0, h8⟩, fun H8 one s8 ho hn1 => ?_⟩
    have hL8 := s8 _ _ hL
    have pxs8 := ints_tk pxs s8.tk
    have nLs : L ≠ s := (m6.a.ne hL0).1
    have m68 := (m6.same s7).same s8
    have st8 := m68.a
    have hx8 := hx2.tk (((m3.trans m4).trans m5).trans m68).tk
    have hrs8 := hrs.tk (m5.trans m68).tk
    have hy8 := hy.tk m68.tk
    clear hL pxs s1 hs0 st1 m2 m3 m4 m5 m6 s7 s8 hL0 m68 hx2 hrs hy hS
    have ho8 : One H8 one (posL rs v hh) := ho
    -- three turns
    refine ⟨3, rfl, by decide, by decide, ?_⟩
    rw [show (3 : Int).toNat = 3 from rfl]
    refine for_range (lo := 0) (n := 3) (fun i σ H' => Stm s l ns H8 H' ∧ (∃ s8 s9, σ = [some (.ref a), some (.ref s), some x, some r, some y, some (.int hh), some (.ref L), some one, s8, s9, none, none, none, none]) ∧
        (0 < i → ∃ ss : List Int, ss.length = v.length ∧ (∀ z ∈ ss, 0 ≤ z) ∧ ss.sum = hh ∧ Keeps (dV D) v ss))
      ⟨Stm.refl st8, ⟨none, none, rfl⟩, fun z => absurd z (Nat.lt_irrefl 0)⟩ (fun i σ H' hi ⟨m, ⟨s8, s9, eσ⟩, _⟩ => ?_) (fun σ H' ⟨m, ⟨s8, s9, eσ⟩, fair⟩ => ?_)
    · subst eσ
      refine ⟨_, rfl, _, rfl, _, rfl, _, rfl, s, l, ns, D, v, x, y, hh.toNat, by rw [show ((hh.toNat : Nat) : Int) = hh by omega]; rfl, m.a, hx8.tk m.tk, gd, hy8.tk m.tk, gv, v1, by omega, fun H9 z ss m9 hz len nn sum kp => ?_⟩
      have sum : ss.sum = hh := by rw [sum]; omega
      have mm := m.trans m9
      exact told_no rfl rfl rfl (mm.sx _ _ nLs hL8) (ints_tk pxs8 mm.tk) (ho8.tk mm.tk) hz (pos_of asc gvn.good gvn.keeps gv h0 h8 len nn sum kp) (iteF ⟨mm, ⟨_, _, rfl⟩, fun _ => ⟨ss, len, nn, sum, kp⟩⟩)
    · subst eσ
      obtain ⟨ss0, len0, nn0, sum0, kp0⟩ := fair (by decide)
      -- the method
      refine ⟨fun σ' H' => Stm s l ns H8 H' ∧ ∃ s8 s9 mv fs st, σ' = [some (.ref a), some (.ref s), some x, some r, some y, some (.int hh), some (.ref L), some one, s8, s9, some mv, none, none, none] ∧ IsM H' mv fs st ∧ GoodM fs st, ?_, fun σ' H' ⟨m1, s8', s9', mv, fs, st, eσ', hm, gm⟩ => ?_⟩
      · refine ⟨_, rfl, s, l, ns, rfl, m.a, fun H9 xd D2 m9 hxd gd2 => ⟨3, rfl, ?_⟩⟩
        obtain ⟨ad, rfl, had⟩ := hxd
        have lm : (D2.map V.int).length = D2.length := List.length_map ..
        have mm := m.trans m9
        have fin : ∀ (x2 : V) (Ha : Hp), Same H9 Ha → Ints Ha x2 (D2.take 3) → tCons (tOp (rI0 fun i j => .int (i + j)) (tC (.int 1)) (tCall spNext [] E0 (tCons (tVar 1) (tCons (tC (.int 2)) tNil)))) tNil [some (.ref a), some (.ref s), some x, some r, some y, some (.int hh), some (.ref L), some one, s8, s9, none, none, none, none] Ha fun us H8' => (x2 :: us).length ≤ sizeLine ∧ ∀ p, H8' p = none → Stm s l ns H8 (upd H8' p (.tup (x2 :: us))) ∧ ∃ s8' s9' mv fs st, [some (.ref a), some (.ref s), some x, some r, some y, some (.int hh), some (.ref L), some one, s8, s9, some (V.ref p), none, none, none] = [some (.ref a), some (.ref s), some x, some r, some y, some (.int hh), some (.ref L), some one, s8', s9', some mv, none, none, none] ∧ IsM (upd H8' p (.tup (x2 :: us))) mv fs st ∧ GoodM fs st := fun x2 Ha sa hx2 => by
          have ma := mm.same sa
          refine ⟨_, rfl, s, l, ns, 2, rfl, by decide, by decide, ma.a, fun Hb d mb d0 d2 => ⟨_, _, rfl, rfl, by show 2 ≤ sizeLine; decide, fun p hp => ?_⟩⟩
          have sp := same_new (o := HO.tup [x2, .int (1 + d)]) hp
          exact ⟨(ma.trans mb).same sp, _, _, _, D2.take 3, 1 + d, rfl, ⟨p, x2, rfl, upd_same, (hx2.tk mb.tk).tk sp.tk⟩, goodM_take gd2 (by omega) (by omega)⟩
        refine ⟨ad, _, rfl, SqT.of had, fun hw => ?_, fun hw p hp => ?_⟩
        · refine fin _ H9 (Same.refl H9) ⟨ad, rfl, ?_⟩
          have : D2.take 3 = D2 := List.take_of_length_le (by
            have h2 := hw.2
            rw [show (some (3 : Int)) = some ((3 : Nat) : Int) from rfl, HT.sIx_nat] at h2
            omega)
          rw [this]
          exact had
        · refine fin _ _ (same_new hp) ⟨p, rfl, ?_⟩
          rw [upd_same]
          unfold cutV tupI
          rw [HT.sIx_none, show (some (3 : Int)) = some ((3 : Nat) : Int) from rfl, HT.sIx_nat, lm, List.drop_zero, Nat.sub_zero, List.map_take]
          congr 2
          rw [Nat.min_def]
          split
          · rfl
          · rw [List.take_of_length_le (by omega), List.take_of_length_le (by omega)]
      · subst eσ'
        have mmm := m1.tk
        -- what a valid method would give
        refine ⟨fun σ'' H'' => Stm s l ns H8 H'' ∧ ∃ s8 s9, σ'' = [some (.ref a), some (.ref s), some x, some r, some y, some (.int hh), some (.ref L), some one, s8, s9, some mv, none, none, none], ?_, fun σ'' H'' ⟨m2, s8'', s9'', eσ''⟩ => ?_⟩
        · obtain ⟨ar, xr, rfl, har, prs⟩ := hrs8.tk mmm
          have lxr := Paired.length prs
          refine ⟨_, rfl, ar, rfl, ⟨xr, SqT.of har⟩, fun C hC => lc_tup (K := K) (a := ar) (xs := xr) (fun i Hn => Same H' Hn ∧ ∃ bs : List Bool, Hn C = some (.lst (bs.map V.bl)) ∧ bs.length = i ∧ ((∀ b ∈ bs, b = true) → KeepsAll (dM fs st) (rs.take i)))
            ⟨same_new hC, [], upd_same, rfl, fun _ r hr => (nomatch hr)⟩ (fun i Hn _ ⟨sm, _⟩ => SqT.of (sm _ _ har)) (fun i z Hn hi ⟨sm, bs, hbs, lb, all⟩ => ?_) (fun Hn ⟨sm, bs, hbs, lb, all⟩ => ⟨C, bs, rfl, SqL.of hbs, _, rfl, ite2 (fun e => ?_) (fun e => ?_)⟩)⟩
          · obtain ⟨q, hq, aq, x1, y1, rfl, haq, hx1, hy1⟩ := paired_get prs hi
            have lj := (List.getElem?_eq_some_iff.mp hq).1
            have gq := gvn.good q (List.mem_of_getElem? hq)
            refine ⟨aq, _, rfl, SqT.of (sm _ _ haq), rfl, _, _, rfl, _, _, rfl, rfl, rfl, ?_⟩
            refine ⟨_, rfl, _, rfl, _, rfl, mv, x1, y1, fs, st, q.1, q.2, rfl, hm.tk sm.tk, gm, hx1.tk sm.tk, gq.1, hy1.tk sm.tk, gq.2, fun Hk c sk hc => ?_⟩
            refine ⟨_, sk _ _ hbs, by rw [List.length_map]; exact size4 (by omega), Same.put (Same.trans sm sk) hC, bs ++ [c], ?_, by rw [List.length_append, lb]; rfl, fun al => ?_⟩
            · rw [upd_same, List.map_append]
              rfl
            · rw [List.take_add_one, hq, Option.toList_some]
              intro q' hq'
              rcases List.mem_append.mp hq' with hq' | hq'
              · exact all (fun b hb => al b (List.mem_append_left _ hb)) q' hq'
              · rw [List.mem_singleton.mp hq']
                exact hc (al c (List.mem_append_right _ (List.mem_singleton.mpr rfl)))
          · -- all valid
            have kall : KeepsAll (dM fs st) rs := by
              have := all (fun b hb => by
                have := List.all_eq_true.mp e b hb
                exact this)
              rw [lxr, List.take_length] at this
              exact this
            have mn := m1.same sm
            obtain ⟨b, eb, hb⟩ := hy8.tk mn.tk
            subst eb
            refine ⟨_, rfl, b, _, rfl, .inr (SqT.of hb), _, rfl, v.length, hh, by rw [List.length_map]; rfl, l5, h0, h8, fun Hk L2 xs2 zs sk hL2n hL2 pz allz => ?_⟩
            refine ⟨L2, rfl, ⟨xs2, SqL.of hL2⟩, for_list (K := K) (a := L2) (xs := xs2) (fun j σ'' H'' => Same Hk H'' ∧ ∃ s8 s9, σ'' = [some (.ref a), some (.ref s), some x, some (.ref ar), some (.ref b), some (.int hh), some (.ref L), some one, s8, s9, some mv, none, none, none])
              ⟨Same.refl Hk, _, _, rfl⟩ (fun j σ'' H'' _ ⟨sm2, _⟩ => SqL.of (sm2 _ _ hL2)) (fun j z σz Hz hj ⟨sm2, s8', s9', eσ''⟩ => ?_) (fun σ'' H'' ⟨sm2, s8', s9', eσ''⟩ => ⟨(mn.same sk).same sm2, _, _, eσ''⟩)⟩
            subst eσ''
            obtain ⟨zz, hzz, hzI⟩ := paired_get pz hj
            obtain ⟨az, az2⟩ := allz zz (List.mem_of_getElem? hzz)
            have mz := (mn.same sk).same sm2
            have gs := goodS_of h0 h8 ((mem_allSeats h0).mpr ⟨az.len, az.nn, az2⟩)
            refine ⟨_, rfl, _, rfl, _, rfl, mv, .ref b, z, fs, st, v, zz, rfl, hm.tk ((Same.trans (Same.trans sm sk) sm2).tk), gm, ⟨b, rfl, (Same.trans sk sm2).tk _ _ hb⟩, gv, hzI.tk sm2.tk, gs, fun Hq c sq hc => ⟨_, rfl, ite2 (fun e => ?_) (fun e => ?_)⟩⟩
            · have mq := mz.same sq
              exact told_no rfl rfl rfl (mq.sx _ _ nLs hL8) (ints_tk pxs8 mq.tk) (ho8.tk mq.tk) (hzI.tk (Same.trans sm2 sq).tk) (pos_of (dM_asc gm) gvn.good kall gv h0 h8 az.len az.nn az2 (hc e)) (iteF ⟨Same.trans sm2 sq, _, _, rfl⟩)
            · exact iteF ⟨Same.trans sm2 sq, _, _, rfl⟩
          · exact ⟨m1.same sm, _, _, rfl⟩
        · subst eσ''
          -- one result more
          refine ⟨fun σ3 H3 => Stm s l ns H8 H3 ∧ ∃ s8 s9 xm, σ3 = [some (.ref a), some (.ref s), some x, some r, some y, some (.int hh), some (.ref L), some one, s8, s9, some mv, some xm, none, none] ∧ ∃ ms, IsRs H3 xm (rs ++ ms) ∧ Given D 1 ms, ?_, fun σ3 H3 ⟨m3, s8, s9, xm, eσ3, ms, hms, gms⟩ => ?_⟩
          · obtain ⟨ar, xr, rfl, har, prs⟩ := hrs8.tk m2.tk
            refine ⟨_, rfl, _, rfl, _, rfl, s, l, ns, D, x, 1, rfl, m2.a, hx8.tk m2.tk, gd, by decide, fun Hc r2 ms mc hr2 gms => ?_⟩
            obtain ⟨ar2, xr2, rfl, har2, prs2⟩ := hr2
            have mm := m2.trans mc
            have l1 := Paired.length prs
            have l2 := Paired.length prs2
            have l3 := gms.len
            have prs' := paired_mono prs fun _ _ h => h.tk mc.tk
            refine ⟨ar, ar2, xr, xr2, rfl, rfl, SqT.of (mc.tk _ _ har), SqT.of har2, size5 (by omega), fun e => ?_, fun _ e => ?_, fun _ _ p hp => ?_⟩
            · refine ⟨mm, _, _, _, rfl, ms, ⟨ar2, xr2, rfl, har2, ?_⟩, gms⟩
              have := paired_app prs' prs2
              rw [e] at this
              exact this
            · rw [e, l3] at l2
              exact absurd l2 (by decide)
            · have sp := same_new (o := HO.tup (xr ++ xr2)) hp
              exact ⟨mm.same sp, _, _, _, rfl, ms, ⟨p, _, rfl, upd_same, paired_mono (paired_app prs' prs2) fun _ _ h => h.tk sp.tk⟩, gms⟩
          · subst eσ3
            have gall := gvn.app gms
            have lms := gall.len
            have asked : Asked H3 xm y (rs ++ ms) v hh := ⟨hms, gall.good, by omega, hy8.tk m3.tk, gv, h0, h8⟩
            refine ⟨_, rfl, _, rfl, _, rfl, xm, y, rs ++ ms, v, hh, rfl, asked, fun H10 M ys s10 hM0 hM pys => ?_⟩
            have mem0 := pos_of asc gall.good gall.keeps gv h0 h8 len0 nn0 sum0 kp0
            have m10 := m3.same s10
            have ly := Paired.length pys
            have lp := posL_len (rs := rs ++ ms) h0 h8 l5
            have sub : ∀ r ∈ rs, r ∈ rs ++ ms := fun r hr => List.mem_append_left _ hr
            refine ⟨_, rfl, M, rfl, ⟨ys, SqL.of hM⟩, fun C hC => lc_list (K := K) (a := M) (xs := ys) (fun i Hn => Same H10 Hn ∧ ∃ bs : List Bool, Hn C = some (.lst (bs.map V.bl)) ∧ bs.length = i ∧ ∀ b ∈ bs, b = true)
              ⟨same_new hC, [], upd_same, rfl, fun b hb => (nomatch hb)⟩ (fun i Hn _ ⟨sm, _⟩ => SqL.of (sm _ _ hM)) (fun i z Hn hi ⟨sm, bs, hbs, lb, all⟩ => ?_) (fun Hn ⟨sm, bs, hbs, lb, all⟩ => ⟨C, bs, rfl, SqL.of hbs, _, rfl, ?_⟩)⟩
            · obtain ⟨q, hq, hzI⟩ := paired_get pys hi
              have lj := (List.getElem?_eq_some_iff.mp hi).1
              have mq := m10.same sm
              have inn := pos_more sub (List.mem_of_getElem? hq)
              have e : (((posL rs v hh).map iD).any fun z => PyData.eqv z (iD q)) = true := List.any_eq_true.mpr ⟨iD q, List.mem_map.mpr ⟨q, inn, rfl⟩, iD_refl q⟩
              refine ⟨rfl, _, rfl, _, rfl, iD q, (posL rs v hh).map iD, (hzI.tk sm.tk).dp, .lst (SqL.of (mq.sx _ _ nLs hL8)) (dpAll (ints_tk pxs8 mq.tk)), iD_shaped _, iDs_shaped _, ?_⟩
              rw [e]
              refine ⟨_, hbs, by rw [List.length_map]; exact size4 (by omega), Same.put sm hC, bs ++ [true], ?_, by rw [List.length_append, lb]; rfl, fun b hb => ?_⟩
              · rw [upd_same, List.map_append]
                rfl
              · rcases List.mem_append.mp hb with hb | hb
                · exact all b hb
                · exact List.mem_singleton.mp hb
            · rw [all_true all]
              have hMn := sm _ _ hM
              have ye : ys.isEmpty = false := by
                cases ys with
                | nil =>
                  have : posL (rs ++ ms) v hh = [] := List.eq_nil_of_length_eq_zero ly.symm
                  rw [this] at mem0
                  exact absurd mem0 (List.not_mem_nil)
                | cons _ _ => rfl
              refine iteF ⟨_, rfl, true, .inl ⟨ys, SqL.of hMn, by rw [ye]; rfl⟩, iteF ?_⟩
              -- return
              refine ⟨_, rfl, rfl, _, rfl, ite2 (fun e => k _) (fun e => ?_)⟩
              have mn := m10.same sm
              rcases ho8 with ⟨s0, e0, i0⟩ | en
              · refine ⟨_, rfl, _, rfl, _, rfl, xm, y, rs ++ ms, v, hh, rfl, asked.tk (Same.trans s10 sm).tk, fun H12 r2 s12 ho2 hn2 => ?_⟩
                have pc := pos_certain sub e0 (List.ne_nil_of_mem mem0)
                rcases ho2 with ⟨s2, e2, i2⟩ | e2
                · rw [pc] at e2
                  have e2 := (List.cons.inj e2).1
                  subst e2
                  refine ⟨_, rfl, iD s0, iD s0, i2.dp, (i0.tk (mn.same s12).tk).dp, iD_shaped _, iD_shaped _, ?_⟩
                  rw [iD_refl]
                  exact k _
                · exact absurd e2 (hn2 (by rw [pc]; rfl))
              · exact absurd (decide_eq_true en) e
end
end Ds
set_option maxHeartbeats 0
namespace Ds
open PySem PySem.Spec PyProof.Rows L2
def d_is_whole_methods : He.DefD := ⟨("is_whole_methods", none), "is_whole", "is_whole", defArgs s_is_whole_methods, defBody s_is_whole_methods, defScope s_is_whole_methods, [], []⟩
def d_is_method : He.DefD := ⟨("is_method", none), "is_method", "is_method", defArgs s_is_method, defBody s_is_method, defScope s_is_method, [], []⟩
def d_divisor_at : He.DefD := ⟨("divisor_at", none), "divisor_at", "divisor_at", defArgs s_divisor_at, defBody s_divisor_at, defScope s_divisor_at, [], []⟩
def d_divisors_to : He.DefD := ⟨("divisors_to", none), "divisors_to", "divisors_to", defArgs s_divisors_to, defBody s_divisors_to, defScope s_divisors_to, [], []⟩
def d_check_method : He.DefD := ⟨("check_method", none), "check_method", "check_method", defArgs s_check_method, defBody s_check_method, defScope s_check_method, [], []⟩
def d_is_votes : He.DefD := ⟨("is_votes", none), "is_votes", "is_votes", defArgs s_is_votes, defBody s_is_votes, defScope s_is_votes, [], []⟩
def d_is_seats : He.DefD := ⟨("is_seats", none), "is_seats", "is_seats", defArgs s_is_seats, defBody s_is_seats, defScope s_is_seats, [], []⟩
def d_is_wrong : He.DefD := ⟨("is_wrong", none), "is_wrong", "is_wrong", defArgs s_is_wrong, defBody s_is_wrong, defScope s_is_wrong, [], []⟩
def d_first_wrong : He.DefD := ⟨("first_wrong", none), "first_wrong", "first_wrong", defArgs s_first_wrong, defBody s_first_wrong, defScope s_first_wrong, [], []⟩
def d_valid_by : He.DefD := ⟨("valid_by", none), "valid_by", "valid_by", defArgs s_valid_by, defBody s_valid_by, defScope s_valid_by, [], []⟩
def d_all_seats : He.DefD := ⟨("all_seats", none), "all_seats", "all_seats", defArgs s_all_seats, defBody s_all_seats, defScope s_all_seats, [], []⟩
def d_check_votes : He.DefD := ⟨("check_votes", none), "check_votes", "check_votes", defArgs s_check_votes, defBody s_check_votes, defScope s_check_votes, [], []⟩
def d_check_seats : He.DefD := ⟨("check_seats", none), "check_seats", "check_seats", defArgs s_check_seats, defBody s_check_seats, defScope s_check_seats, [], []⟩
def d_is_valid : He.DefD := ⟨("is_valid", none), "is_valid", "is_valid", defArgs s_is_valid, defBody s_is_valid, defScope s_is_valid, [], []⟩
def d_is_whole_fitting : He.DefD := ⟨("is_whole_fitting", none), "is_whole", "is_whole", defArgs s_is_whole_fitting, defBody s_is_whole_fitting, defScope s_is_whole_fitting, [], []⟩
def d_is_result : He.DefD := ⟨("is_result", none), "is_result", "is_result", defArgs s_is_result, defBody s_is_result, defScope s_is_result, [], []⟩
def d_are_results : He.DefD := ⟨("are_results", none), "are_results", "are_results", defArgs s_are_results, defBody s_are_results, defScope s_are_results, [], []⟩
def d_check_results : He.DefD := ⟨("check_results", none), "check_results", "check_results", defArgs s_check_results, defBody s_check_results, defScope s_check_results, [], []⟩
def d_seen_in : He.DefD := ⟨("seen_in", none), "seen_in", "seen_in", defArgs s_seen_in, defBody s_seen_in, defScope s_seen_in, [], []⟩
def d_top_of : He.DefD := ⟨("top_of", none), "top_of", "top_of", defArgs s_top_of, defBody s_top_of, defScope s_top_of, [], []⟩
def d_least_steps : He.DefD := ⟨("least_steps", none), "least_steps", "least_steps", defArgs s_least_steps, defBody s_least_steps, defScope s_least_steps, [], []⟩
def d_longer : He.DefD := ⟨("longer", none), "longer", "longer", defArgs s_longer, defBody s_longer, defScope s_longer, [], []⟩
def d_walks_of : He.DefD := ⟨("walks_of", none), "walks_of", "walks_of", defArgs s_walks_of, defBody s_walks_of, defScope s_walks_of, [], []⟩
def d_round_in : He.DefD := ⟨("round_in", none), "round_in", "round_in", defArgs s_round_in, defBody s_round_in, defScope s_round_in, [], []⟩
def d_common : He.DefD := ⟨("common", none), "common", "common", defArgs s_common, defBody s_common, defScope s_common, [], []⟩
def d_whole_numbers : He.DefD := ⟨("whole_numbers", none), "whole_numbers", "whole_numbers", defArgs s_whole_numbers, defBody s_whole_numbers, defScope s_whole_numbers, [], []⟩
def d_reduced : He.DefD := ⟨("reduced", none), "reduced", "reduced", defArgs s_reduced, defBody s_reduced, defScope s_reduced, [], []⟩
def d_least_ratios : He.DefD := ⟨("least_ratios", none), "least_ratios", "least_ratios", defArgs s_least_ratios, defBody s_least_ratios, defScope s_least_ratios, [], []⟩
def d_fit : He.DefD := ⟨("fit", none), "fit", "fit", defArgs s_fit, defBody s_fit, defScope s_fit, [], []⟩
def d_behind : He.DefD := ⟨("behind", none), "behind", "behind", defArgs s_behind, defBody s_behind, defScope s_behind, [], []⟩
def d_possible_shares : He.DefD := ⟨("possible_shares", none), "possible_shares", "possible_shares", defArgs s_possible_shares, defBody s_possible_shares, defScope s_possible_shares, [], []⟩
def d_check_asked : He.DefD := ⟨("check_asked", none), "check_asked", "check_asked", defArgs s_check_asked, defBody s_check_asked, defScope s_check_asked, [], []⟩
def d_possible : He.DefD := ⟨("possible", none), "possible", "possible", defArgs s_possible, defBody s_possible, defScope s_possible, [], []⟩
def d_certain : He.DefD := ⟨("certain", none), "certain", "certain", defArgs s_certain, defBody s_certain, defScope s_certain, [], []⟩
def d__law_stream : He.DefD := ⟨("_law_stream", none), "_law_stream", "_law_stream", defArgs s__law_stream, defBody s__law_stream, defScope s__law_stream, [], []⟩
def d__law_next : He.DefD := ⟨("_law_next", none), "_law_next", "_law_next", defArgs s__law_next, defBody s__law_next, defScope s__law_next, [], []⟩
def d__law_divisor : He.DefD := ⟨("_law_divisor", none), "_law_divisor", "_law_divisor", defArgs s__law_divisor, defBody s__law_divisor, defScope s__law_divisor, [], []⟩
def d__law_divisors : He.DefD := ⟨("_law_divisors", none), "_law_divisors", "_law_divisors", defArgs s__law_divisors, defBody s__law_divisors, defScope s__law_divisors, [], []⟩
def d__law_votes : He.DefD := ⟨("_law_votes", none), "_law_votes", "_law_votes", defArgs s__law_votes, defBody s__law_votes, defScope s__law_votes, [], []⟩
def d__law_seated : He.DefD := ⟨("_law_seated", none), "_law_seated", "_law_seated", defArgs s__law_seated, defBody s__law_seated, defScope s__law_seated, [], []⟩
def d__law_all_seats : He.DefD := ⟨("_law_all_seats", none), "_law_all_seats", "_law_all_seats", defArgs s__law_all_seats, defBody s__law_all_seats, defScope s__law_all_seats, [], []⟩
def d__law_fitting_results : He.DefD := ⟨("_law_fitting_results", none), "_law_fitting_results", "_law_fitting_results", defArgs s__law_fitting_results, defBody s__law_fitting_results, defScope s__law_fitting_results, [], []⟩
def d_law : He.DefD := ⟨("law", none), "law", "law", defArgs s_law, defBody s_law, defScope s_law, [], []⟩
def fns0 : List He.DefD := [d_is_whole_methods, d_is_method, d_divisor_at, d_divisors_to, d_check_method, d_is_votes, d_is_seats, d_is_wrong, d_first_wrong, d_valid_by, d_all_seats, d_check_votes]
def fns1 : List He.DefD := [d_check_seats, d_is_valid, d_is_whole_fitting, d_is_result, d_are_results, d_check_results, d_seen_in, d_top_of, d_least_steps, d_longer, d_walks_of, d_round_in]
def fns2 : List He.DefD := [d_common, d_whole_numbers, d_reduced, d_least_ratios, d_fit, d_behind, d_possible_shares, d_check_asked, d_possible, d_certain, d__law_stream, d__law_next]
def fns3 : List He.DefD := [d__law_divisor, d__law_divisors, d__law_votes, d__law_seated, d__law_all_seats, d__law_fitting_results, d_law]
def fns : List He.DefD := fns0 ++ fns1 ++ fns2 ++ fns3
def fas0 : List He.Fa := [.glo "is_whole_methods", .glo "is_method", .glo "divisor_at", .glo "divisors_to", .glo "check_method", .glo "is_votes", .glo "is_seats", .glo "is_wrong", .glo "first_wrong", .glo "valid_by", .glo "all_seats", .glo "check_votes"]
def fas1 : List He.Fa := [.glo "check_seats", .glo "is_valid", .glo "is_whole_fitting", .glo "is_result", .glo "are_results", .glo "check_results", .glo "seen_in", .glo "top_of", .glo "least_steps", .glo "longer", .glo "walks_of", .glo "round_in"]
def fas2 : List He.Fa := [.glo "common", .glo "whole_numbers", .glo "reduced", .glo "least_ratios", .glo "fit", .glo "behind", .glo "possible_shares", .glo "check_asked", .glo "possible", .glo "certain", .glo "_law_stream", .glo "_law_next"]
def fas3 : List He.Fa := [.glo "_law_divisor", .glo "_law_divisors", .glo "_law_votes", .glo "_law_seated", .glo "_law_all_seats", .glo "_law_fitting_results", .glo "law", .free "len", .free "range", .free "isinstance", .free "int", .free "bool"]
def fas4 : List He.Fa := [.free "tuple", .free "all", .free "sum", .free "max", .free "list", .free "abs", .free "enumerate", .int "MOST_FIRSTS" 6, .int "MOST_DIVISOR" 1000, .int "MOST_PARTIES" 5, .int "MOST_VOTES" 1000000, .int "MOST_SEATS" 8]
def fas5 : List He.Fa := [.int "MOST_RESULTS" 6, .int "MOST_HOUSE" 8]
def fas : List He.Fa := fas0 ++ fas1 ++ fas2 ++ fas3 ++ fas4 ++ fas5
def loose0 : List PySem.Str := ["SeatError", "BadValue", "MOST_FIRSTS", "MOST_DIVISOR", "is_whole", "is_whole_methods", "is_method", "divisor_at", "divisors_to", "check_method", "MOST_PARTIES", "MOST_VOTES", "MOST_SEATS", "is_votes", "is_seats"]
def loose1 : List PySem.Str := ["is_wrong", "first_wrong", "valid_by", "all_seats", "check_votes", "check_seats", "is_valid", "MOST_RESULTS", "is_whole_fitting", "is_result", "are_results", "check_results", "seen_in", "top_of", "least_steps"]
def loose2 : List PySem.Str := ["longer", "walks_of", "round_in", "common", "whole_numbers", "reduced", "least_ratios", "fit", "MOST_HOUSE", "behind", "possible_shares", "check_asked", "possible", "certain", "_law_stream"]
def loose3 : List PySem.Str := ["_law_next", "_law_is_integer", "_law_equal", "_law_divisor", "_law_divisors", "_law_votes", "_law_seated", "_law_results", "_law_seen", "_law_all", "_law_top", "_law_common", "_law_reduced", "_law_whole", "_law_relaxed"]
def loose4 : List PySem.Str := ["_law_told_divisors", "_law_keeps", "_law_all_seats", "_law_fitting_results"]
def loose : List PySem.Str := loose0 ++ loose1 ++ loose2 ++ loose3 ++ loose4
abbrev R : PySem.W.OpenRow := PySem.W.OpenLaw.row PySem.Challenge.rw_dividedseats_k32_whole_what_methods_do_n
abbrev hk : PySem.W.Hook := He.hookD 2 fas fns
def ob (s : PySem.W.SharedT) : He.AlD := He.obsDG 2 fas fns (HandSHeadRun.getT s)
theorem ob_eq (s : PySem.W.SharedT) : ob s = hk.obs s.abs := He.obsDG_eq (HandSHeadRun.getT_eq s)
theorem run (w : World) : HandSHeadRun.RunEq R (PySem.W.view R.prog [71]) hk ob 4000 loose w := by
  intro os
  kernel_rfl
theorem dfn {K : PySem.W.Frag} {h : Heap} {mg : Str → Option Value} (X : K.In h) (G : h.Ns mainGlobals mg) (c : He.SaysD fas fns K) (i : Nat) {x q : Str} {st : Stmt}
    (hd : fns[i]? = some ⟨(x, none), q, q, defArgs st, defBody st, defScope st, [], []⟩) (hf : fas[i]? = some (.glo x)) : Dfn K mg x q st := by
  obtain ⟨fd, F⟩ := c.def_ i hd
  exact ⟨_, fd, F, He.glo_ok X G (c.fact i hf)⟩
theorem txt {K : PySem.W.Frag} {h : Heap} {mg : Str → Option Value} (X : K.In h) (G : h.Ns mainGlobals mg) (c : He.SaysD fas fns K) : Txt mg :=
  ⟨He.free_ok X G (c.fact 43 (f := .free "len") rfl), He.free_ok X G (c.fact 44 (f := .free "range") rfl), He.free_ok X G (c.fact 45 (f := .free "isinstance") rfl), He.free_ok X G (c.fact 46 (f := .free "int") rfl), He.free_ok X G (c.fact 47 (f := .free "bool") rfl), He.free_ok X G (c.fact 48 (f := .free "tuple") rfl), He.free_ok X G (c.fact 49 (f := .free "all") rfl), He.free_ok X G (c.fact 50 (f := .free "sum") rfl), He.free_ok X G (c.fact 51 (f := .free "max") rfl), He.free_ok X G (c.fact 52 (f := .free "list") rfl), He.free_ok X G (c.fact 53 (f := .free "abs") rfl), He.free_ok X G (c.fact 54 (f := .free "enumerate") rfl),
   He.int_ok X G (c.fact 55 (f := .int "MOST_FIRSTS" 6) rfl), He.int_ok X G (c.fact 56 (f := .int "MOST_DIVISOR" 1000) rfl), He.int_ok X G (c.fact 57 (f := .int "MOST_PARTIES" 5) rfl), He.int_ok X G (c.fact 58 (f := .int "MOST_VOTES" 1000000) rfl), He.int_ok X G (c.fact 59 (f := .int "MOST_SEATS" 8) rfl), He.int_ok X G (c.fact 60 (f := .int "MOST_RESULTS" 6) rfl), He.int_ok X G (c.fact 61 (f := .int "MOST_HOUSE" 8) rfl)⟩
theorem facts {P : Program} {w : World} {K : PySem.W.Frag} {h : Heap} {mg : Str → Option Value} {f : Addr} (X : K.In h) (G : h.Ns mainGlobals mg) (hfa : mg ("law" : Str) = some (.ref f)) (c : He.SaysD fas fns K) :
    ∃ fd : FuncData, (∀ (s : Shared) (v : Value), BindsTo s fd ⟨[v], []⟩ [("_law_script", v)]) ∧ ∀ base : Heap, K.In base → base.Ns mainGlobals mg → FnOk P w K mg base CX0 8 f fd ["_law_script"] (spLaw K) := by
  obtain ⟨fd, F⟩ := c.def_ 42 (d := d_law) rfl
  have e := hfa.symm.trans (He.glo_ok X G (c.fact 42 (f := .glo "law") rfl))
  cases e
  have b := FunD.bindsA (ps := ["_law_script"]) F fun _ _ _ _ _ _ us hl => match us, hl with | [_], _ => rfl
  refine ⟨fd, fun s v => b s [v] rfl, fun base _ _ => ?_⟩
  have T := txt X G c
  have g_common : Prm P w K mg base 1 "common" spCommon := ok_common (dfn X G c 24 rfl rfl)
  have g_reduced : Prm P w K mg base 2 "reduced" spReduced := ok_reduced (dfn X G c 26 rfl rfl) g_common
  have g_whole_numbers : Prm P w K mg base 2 "whole_numbers" (spWhole K) := ok_whole T (dfn X G c 25 rfl rfl) g_common
  have g_seen_in : Prm P w K mg base 1 "seen_in" spSeen := ok_seen T (dfn X G c 18 rfl rfl)
  have g_top_of : Prm P w K mg base 1 "top_of" spTop := ok_top T (dfn X G c 19 rfl rfl)
  have g_least_steps : Prm P w K mg base 1 "least_steps" spLeast := ok_least T (dfn X G c 20 rfl rfl)
  have g_longer : Prm P w K mg base 1 "longer" spLonger := ok_longer (dfn X G c 21 rfl rfl)
  have g_walks_of : Prm P w K mg base 2 "walks_of" spWalks := ok_walks T (dfn X G c 22 rfl rfl) g_longer
  have g_round_in : Prm P w K mg base 1 "round_in" spRound := ok_round (dfn X G c 23 rfl rfl)
  have g_least_ratios : Prm P w K mg base 3 "least_ratios" spRatios := ok_ratios (dfn X G c 27 rfl rfl) g_reduced
  have g_fit : Prm P w K mg base 4 "fit" spFit := ok_fit T (dfn X G c 28 rfl rfl) g_seen_in g_top_of g_least_steps g_walks_of g_round_in g_least_ratios g_whole_numbers
  have g_is_whole_methods : Prm P w K mg base 1 "is_whole_methods" spInt := ok_wholeM T (dfn X G c 0 rfl rfl)
  have g_is_whole_fitting : Prm P w K mg base 1 "is_whole_fitting" spInt := ok_wholeF T (dfn X G c 14 rfl rfl)
  have g_is_votes : Prm P w K mg base 2 "is_votes" spVotes := ok_votes T (dfn X G c 5 rfl rfl) g_is_whole_methods
  have g_is_seats : Prm P w K mg base 2 "is_seats" spSeats := ok_seats T (dfn X G c 6 rfl rfl) g_is_whole_methods
  have g_is_result : Prm P w K mg base 3 "is_result" spResult := ok_result T (dfn X G c 15 rfl rfl) g_is_votes g_is_seats
  have g_are_results : Prm P w K mg base 4 "are_results" spResults := ok_results T (dfn X G c 16 rfl rfl) g_is_result
  have g_check_results : Prm P w K mg base 5 "check_results" spChkR := ok_chkR (dfn X G c 17 rfl rfl) g_are_results
  have g_behind : Prm P w K mg base 1 "behind" spBehind := ok_behind (dfn X G c 29 rfl rfl)
  have g_is_method : Prm P w K mg base 2 "is_method" spMeth := ok_meth T (dfn X G c 1 rfl rfl) g_is_whole_methods
  have g_check_method : Prm P w K mg base 3 "check_method" spChkM := ok_chkM (dfn X G c 4 rfl rfl) g_is_method
  have g_divisor_at : Prm P w K mg base 1 "divisor_at" spDivAt := ok_divAt T (dfn X G c 2 rfl rfl)
  have g_divisors_to : Prm P w K mg base 2 "divisors_to" spDivTo := ok_divTo T (dfn X G c 3 rfl rfl) g_divisor_at
  have g_is_wrong : Prm P w K mg base 1 "is_wrong" spWrong := ok_wrong (dfn X G c 7 rfl rfl)
  have g_first_wrong : Prm P w K mg base 2 "first_wrong" spFirst := ok_first T (dfn X G c 8 rfl rfl) g_is_wrong
  have g_valid_by : Prm P w K mg base 3 "valid_by" spValidBy := ok_validBy (dfn X G c 9 rfl rfl) g_first_wrong
  have g_check_votes : Prm P w K mg base 4 "check_votes" spChkV := ok_chkV (dfn X G c 11 rfl rfl) g_check_method g_is_votes
  have g_check_seats : Prm P w K mg base 5 "check_seats" spChkS := ok_chkS (dfn X G c 12 rfl rfl) g_check_votes g_is_seats
  have g_is_valid : Prm P w K mg base 6 "is_valid" spValid := ok_valid T (dfn X G c 13 rfl rfl) g_check_seats g_valid_by g_divisors_to
  have g_all_seats : Prm P w K mg base 1 "all_seats" spAll := ok_all T (dfn X G c 10 rfl rfl)
  have g_possible_shares : Prm P w K mg base 5 "possible_shares" spShares := ok_shares T (dfn X G c 30 rfl rfl) g_all_seats g_fit g_behind
  have g_check_asked : Prm P w K mg base 6 "check_asked" spAsked := ok_asked T (dfn X G c 31 rfl rfl) g_check_results g_is_votes g_is_whole_fitting
  have g_possible : Prm P w K mg base 7 "possible" spPossible := ok_possible (dfn X G c 32 rfl rfl) g_check_asked g_possible_shares
  have g_certain : Prm P w K mg base 7 "certain" spCertain := ok_certain T (dfn X G c 33 rfl rfl) g_check_asked g_possible_shares
  have g__law_stream : Prm P w K mg base 1 "_law_stream" (spStream K) := ok_stream T (dfn X G c 34 rfl rfl)
  have g__law_next : Prm P w K mg base 1 "_law_next" spNext := ok_next T (dfn X G c 35 rfl rfl)
  have g__law_divisor : Prm P w K mg base 1 "_law_divisor" spDiv := ok_div T (dfn X G c 36 rfl rfl)
  have g__law_divisors : Prm P w K mg base 2 "_law_divisors" spDivs := ok_divs T (dfn X G c 37 rfl rfl) g__law_next
  have g__law_votes : Prm P w K mg base 2 "_law_votes" spLVotes := ok_lvotes T (dfn X G c 38 rfl rfl) g__law_next
  have g__law_seated : Prm P w K mg base 2 "_law_seated" spSeated := ok_seated T (dfn X G c 39 rfl rfl) g__law_next g__law_divisor
  have g__law_all_seats : Prm P w K mg base 1 "_law_all_seats" spLAll := ok_lall T (dfn X G c 40 rfl rfl)
  have g__law_fitting_results : Prm P w K mg base 3 "_law_fitting_results" spFitR := ok_fitr T (dfn X G c 41 rfl rfl) g__law_next g__law_votes g__law_seated
  exact ok_law T F g__law_stream g__law_next g__law_divisors g__law_votes g__law_seated g__law_all_seats g__law_fitting_results g_possible g_certain g_is_valid
end Ds
open PySem PySem.W PySem.Calls PyProof.Rows
theorem PySem.Challenge.cw_dividedseats_k32_whole_what_methods_do_n_holds : PySem.Challenge.rw_dividedseats_k32_whole_what_methods_do_n.Holds := by
  w_on; o_law
  refine HandSHeadRun.head_any (r := OpenLaw.row PySem.Challenge.rw_dividedseats_k32_whole_what_methods_do_n) (q := view (OpenLaw.row PySem.Challenge.rw_dividedseats_k32_whole_what_methods_do_n).prog [71]) (H := Ds.hk) (ob := Ds.ob) (M := 4000) (loose := Ds.loose) (d := HandSHeadRun.topDef (OpenLaw.row PySem.Challenge.rw_dividedseats_k32_whole_what_methods_do_n).prog 71) (kwd := []) Ds.ob_eq
    (by kernel_rfl) (fun s => by kernel_rfl) Ds.run (by kernel_rfl) (by kernel_rfl) (by kernel_rfl) (by rfl) (by first | assumption | decide +kernel) (by decide +kernel) ⟨rfl, rfl, rfl, rfl, rfl, by decide +kernel⟩ ?hw ?hc
  case hw => w_witness2
  case hc =>
    refine L2.walk_ofE (l := PySem.Challenge.rw_dividedseats_k32_whole_what_methods_do_n) (n := 63) (k := 8) (x := "_law_script") (CX := L2.CX0) rfl (by decide) (by kernel_rfl) ⟨rfl, by decide, by decide⟩ ?F (fun _ _ _ _ z => z)
    intro w mg fa h Y G hmg0
    obtain ⟨K, KX, c⟩ := Y
    have hmg : mg ("law" : PySem.Str) = some (.ref fa) := by
      have e : (HandSHeadRun.topDef (OpenLaw.row PySem.Challenge.rw_dividedseats_k32_whole_what_methods_do_n).prog 71).name = ("law" : PySem.Str) := by kernel_rfl
      rw [← e]
      exact hmg0
    obtain ⟨fd, hb, hF⟩ := Ds.facts (P := (PySem.Challenge.rw_dividedseats_k32_whole_what_methods_do_n).prog) (w := w) KX G hmg c
    exact ⟨K, fd, Ds.spLaw K, KX, hb, fun H a ns hl _ hS => ⟨a, ns, rfl, hS, fun _ => rfl⟩, hF⟩
